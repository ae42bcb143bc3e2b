/- Of the proofs of YtifekogdhjabaaaGreatDoor: Zx Zy Zz Va Vb Xx Xy Vd Vc Ve, put together. -/
import Derived.Test.YtifekogdhjabaaaGreatDoorM7
import Derived.Test.YtifekogdhjabaaaGreatDoorM3
import Derived.Test.YtifekogdhjabaaaGreatDoorM5
import Derived.Lay
import Derived.LaidSub
import Derived.Lib.LaidTab
import Derived.Stop.LaidErr
import Derived.Deep.DeepHandedRow
import Derived.SevenTiedAt
import Derived.Test.YtifekogdhjabaaaGreatDoorM1
import Derived.Test.YtifekogdhjabaaaGreatDoorM2
import Derived.Test.YtifekogdhjabaaaGreatDoorM4
import Derived.Test.YtifekogdhjabaaaGreatDoorM6
set_option linter.unusedVariables false
set_option linter.unusedSimpArgs false
set_option maxRecDepth 100000
set_option maxHeartbeats 4000000

namespace Go.Proofs.YtifekogdhjabaaaGreatDoor
open Go.RowKit Go.PK
structure Jx where
  (x:Fx)
  (pR pG:Nat)
  (tr:Int)
  (Lb:List (Nat×Obj))
structure Jq where
  (q:Sq)
  (RE RF:ak)
def Jx.own (y:Jx) (tol:Int) (s:SG) (z:Jq) (L:List (Nat×Obj)):List (Nat×Obj):=y.x.own tol z.q++(y.Lb++(dG y.pR y.pG y.tr z.RE s.L.length++(bD y.pG z.RF s.fs.length++L)))
structure JG (m:Int) (y:Jx) (tol:Int) (s1 s2:SG) (z:Jq):Prop where
  g:Good y.x s1 z.q
  E:ag 10 z.RE s2.L.length (ax du s2.L)
  F:ag 5 z.RF s2.fs.length (ax cD s2.fs)
  d1:DOK m s1
  d2:DOK m s2
  t1:s1.tol=tol
  t2:s2.tol=tol
  tr:tol=min (max y.tr 0) 1000000
  mb:0≤m∧m < 5000
def JO (m:Int) (y:Jx) (tol:Int) (s1 s2:SG) (l1 L:List (Nat×Obj)) (ro:List av) (c:Int) (e:Ending) (w':World):Prop:=e=.returned (Vi c)∧∃ z,JG m y tol s1 s2 z∧Mem w' (l1++y.own tol s2 z L) ro
theorem rk {s:SG} {x:PK.Ord}:(aD s x).2.tol=s.tol:=by
 unfold aD; split <;> (try split) <;> (try split) <;> rfl
theorem px {s:SG} {x:PK.Ord} {e:Int}:(ah s x e).2.tol=s.tol:=by
 unfold ah; repeat' (first | rfl | split)
theorem nh {s:SG} {i n:Int}:(ar s i n).2.tol=s.tol:=by
 unfold ar; repeat' (first | rfl | split)
theorem py {s:SG} {i:Int}:(aE s i).2.tol=s.tol:=by
 unfold aE; repeat' (first | rfl | split)
theorem ni {s:SG} {ls:List PK.Ord} {e:Int}:(aF s ls e).2.tol=s.tol:=by
 unfold aF; repeat' (first | rfl | split)
section
variable {w:World} {l1 L:List (Nat×Obj)} {ro:List av} {m tol:Int} {y:Jx} {s1 s2:SG} {z:Jq}
theorem d4 {s:SG} (h:Mem w (l1++y.own tol s z L) ro):Mem w (dG y.pR y.pG y.tr z.RE s.L.length++(bD y.pG z.RF s.fs.length++(l1++(y.x.own tol z.q++(y.Lb++L))))) ro :=
 (Mem.front (a:=l1++(y.x.own tol z.q++y.Lb)) (b:=dG y.pR y.pG y.tr z.RE s.L.length++bD y.pG z.RF s.fs.length) (c:=L) (h.to (by simp only [Jx.own,List.append_assoc]))).to (by simp only [List.append_assoc])
theorem uW {s:SG} {q:Sq} {RE RF:ak} (h:Mem w (dG y.pR y.pG y.tr RE s.L.length++(bD y.pG RF s.fs.length++(l1++(y.x.own tol q++(y.Lb++L))))) ro):Mem w (l1++y.own tol s ⟨q,RE,RF⟩ L) ro :=
 (Mem.front (b:=l1++(y.x.own tol q++y.Lb)) (a:=dG y.pR y.pG y.tr RE s.L.length++bD y.pG RF s.fs.length) (c:=L) (h.to (by simp only [List.append_assoc]))).to (by simp only [Jx.own,List.append_assoc])
theorem JG.op1 (h:JG m y tol s1 s2 z):opF s1.fs:=opF.new h.d1.fs h.mb h.d1.inv.ok.fs
theorem JG.op2 (h:JG m y tol s1 s2 z):opF s2.fs:=opF.new h.d2.fs h.mb h.d2.inv.ok.fs
theorem uX (hm:Mem w (l1++y.own tol s2 z L) ro) (hg:JG m y tol s1 s2 z) {ws:World} (hws:(ws,fun _=>True)∈ro) (hL:LD ws) (a:PK.Ord) (ha:a.okA) (hw:rh a):Calls Tryz.prog 12 #[Pt y.x.pO,.agg a.cells.toArray] w (JO m y tol (aD s1 a).2 s2 l1 L ro (aD s1 a).1):=by
 obtain rfl:=hg.t1
 refine (x2 (L:=y.Lb++(dG y.pR y.pG y.tr z.RE s2.L.length++(bD y.pG z.RF s2.fs.length++L))) hm hg.g hws hL a ha (by have:=hg.d1.len; omega)).mono ?_
 rintro e w2 ⟨h1,q,h2,h3⟩
 exact ⟨h1,⟨q,z.RE,z.RF⟩,⟨h2,hg.E,hg.F,hg.d1.place hw,hg.d2,rk,hg.t2,hg.tr,hg.mb⟩,h3⟩
theorem uY (hm:Mem w (l1++y.own tol s2 z L) ro) (hg:JG m y tol s1 s2 z) (a:PK.Ord) (ha:a.okA) (hw:rh a):Calls Tryz.prog 78 #[Pt y.pR,.agg a.cells.toArray] w (JO m y tol s1 (aD s2 a).2 l1 L ro (aD s2 a).1):=by
 have h:=r_Place hg.F hg.d2.inv.ok (hg.t2.trans hg.tr) hg.E (d4 hm) a ha (by have:=hg.d2.len; omega)
 refine h.mono ?_
 rintro e w2 ⟨h1,⟨RE,RF⟩,⟨h2,h3⟩,h4⟩
 exact ⟨h1,⟨z.q,RE,RF⟩,⟨hg.g,h2,h3,hg.d1,hg.d2.place hw,hg.t1,rk.trans hg.t2,hg.tr,hg.mb⟩,uW (s:=(aD s2 a).2) h4⟩
theorem pA (hm:Mem w (l1++y.own tol s2 z L) ro) (hg:JG m y tol s1 s2 z) {id:Int} (hid:aj id) (n:Int) (hn:aj n):Calls Tryz.prog 14 #[Pt y.x.pO,Vi id,Vi n] w (JO m y tol (ar s1 id n).2 s2 l1 L ro (ar s1 id n).1):=by
 obtain rfl:=hg.t1
 refine (rf (L:=y.Lb++(dG y.pR y.pG y.tr z.RE s2.L.length++(bD y.pG z.RF s2.fs.length++L))) hm hg.g hid n hn).mono ?_
 rintro e w2 ⟨h1,q,h2,h3⟩
 exact ⟨h1,⟨q,z.RE,z.RF⟩,⟨h2,hg.E,hg.F,hg.d1.receive id n,hg.d2,nh,hg.t2,hg.tr,hg.mb⟩,h3⟩
theorem pB (hm:Mem w (l1++y.own tol s2 z L) ro) (hg:JG m y tol s1 s2 z) {id:Int} (hid:aj id) (n:Int) (hn:aj n):Calls Tryz.prog 79 #[Pt y.pR,Vi id,Vi n] w (JO m y tol s1 (ar s2 id n).2 l1 L ro (ar s2 id n).1):=by
 have h:=r_Rec hg.F hg.d2.inv.ok (hg.t2.trans hg.tr) hg.E (d4 hm) id n hn
 refine h.mono ?_
 rintro e w2 ⟨h1,⟨RE,RF⟩,⟨h2,h3⟩,h4⟩
 exact ⟨h1,⟨z.q,RE,RF⟩,⟨hg.g,h2,h3,hg.d1,hg.d2.receive id n,hg.t1,nh.trans hg.t2,hg.tr,hg.mb⟩,uW (s:=(ar s2 id n).2) h4⟩
theorem zr (hm:Mem w (l1++y.own tol s2 z L) ro) (hg:JG m y tol s1 s2 z) {id:Int} (hid:aj id):Calls Tryz.prog 16 #[Pt y.x.pO,Vi id] w (JO m y tol (aE s1 id).2 s2 l1 L ro (aE s1 id).1):=by
 obtain rfl:=hg.t1
 refine (uK (L:=y.Lb++(dG y.pR y.pG y.tr z.RE s2.L.length++(bD y.pG z.RF s2.fs.length++L))) hm hg.g hid).mono ?_
 rintro e w2 ⟨h1,q,h2,h3⟩
 exact ⟨h1,⟨q,z.RE,z.RF⟩,⟨h2,hg.E,hg.F,hg.d1.cancel id,hg.d2,py,hg.t2,hg.tr,hg.mb⟩,h3⟩
theorem zt (hm:Mem w (l1++y.own tol s2 z L) ro) (hg:JG m y tol s1 s2 z) {id:Int} (hid:aj id):Calls Tryz.prog 80 #[Pt y.pR,Vi id] w (JO m y tol s1 (aE s2 id).2 l1 L ro (aE s2 id).1):=by
 have h:=r_Can hg.F hg.d2.inv.ok (hg.t2.trans hg.tr) hg.E (d4 hm) id
 refine h.mono ?_
 rintro e w2 ⟨h1,⟨RE,RF⟩,⟨h2,h3⟩,h4⟩
 exact ⟨h1,⟨z.q,RE,RF⟩,⟨hg.g,h2,h3,hg.d1,hg.d2.cancel id,hg.t1,py.trans hg.t2,hg.tr,hg.mb⟩,uW (s:=(aE s2 id).2) h4⟩
theorem mM (hm:Mem w (l1++y.own tol s2 z L) ro) (hg:JG m y tol s1 s2 z) {ws:World} (hws:(ws,fun _=>True)∈ro) (hL:LD ws) (t:ByteArray) (hs:t.size≤200000000):Calls Tryz.prog 13 #[Pt y.x.pO,.string t] w (JO m y tol (ah s1 (bn t).1 (bn t).2).2 s2 l1 L ro (ah s1 (bn t).1 (bn t).2).1):=by
 obtain rfl:=hg.t1
 refine (pn (L:=y.Lb++(dG y.pR y.pG y.tr z.RE s2.L.length++(bD y.pG z.RF s2.fs.length++L))) hm hg.g hws hL t hs (uV (by omega))).mono ?_
 rintro e w2 ⟨h1,q,h2,h3⟩
 exact ⟨h1,⟨q,z.RE,z.RF⟩,⟨h2,hg.E,hg.F,hg.d1.answer (kx t).1 (kx t).2,hg.d2,px,hg.t2,hg.tr,hg.mb⟩,h3⟩
theorem mN (hm:Mem w (l1++y.own tol s2 z L) ro) (hg:JG m y tol s1 s2 z) (t:ByteArray) (hs:t.size≤200000000):Calls Tryz.prog 35 #[Pt y.pR,.string t] w (JO m y tol s1 (ah s2 (bn t).1 (bn t).2).2 l1 L ro (ah s2 (bn t).1 (bn t).2).1):=by
 have h:=r_Ans hg.F hg.d2.inv.ok (hg.t2.trans hg.tr) hg.E (d4 hm) t hs
 refine h.mono ?_
 rintro e w2 ⟨h1,⟨RE,RF⟩,⟨h2,h3⟩,h4⟩
 exact ⟨h1,⟨z.q,RE,RF⟩,⟨hg.g,h2,h3,hg.d1,hg.d2.answer (kx t).1 (kx t).2,hg.t1,px.trans hg.t2,hg.tr,hg.mb⟩,uW (s:=(ah s2 (bn t).1 (bn t).2).2) h4⟩
theorem lk (hm:Mem w (l1++y.own tol s2 z L) ro) (hg:JG m y tol s1 s2 z) {ws:World} (hws:(ws,fun _=>True)∈ro) (hL:LD ws) (t:ByteArray) (hs:t.size≤200000000):Calls Tryz.prog 15 #[Pt y.x.pO,.string t] w (JO m y tol (aF s1 (aM t).1 (aM t).2).2 s2 l1 L ro (aF s1 (aM t).1 (aM t).2).1):=by
 obtain rfl:=hg.t1
 refine (mJ (L:=y.Lb++(dG y.pR y.pG y.tr z.RE s2.L.length++(bD y.pG z.RF s2.fs.length++L))) hm hg.g hws hL t hs (uV (by omega))).mono ?_
 rintro e w2 ⟨h1,q,h2,h3⟩
 exact ⟨h1,⟨q,z.RE,z.RF⟩,⟨h2,hg.E,hg.F,hg.d1.invoice (fun ln h=>(kw ln h).1),hg.d2,ni,hg.t2,hg.tr,hg.mb⟩,h3⟩
theorem ll (hm:Mem w (l1++y.own tol s2 z L) ro) (hg:JG m y tol s1 s2 z) (t:ByteArray) (hs:t.size≤200000000):Calls Tryz.prog 36 #[Pt y.pR,.string t] w (JO m y tol s1 (aF s2 (aM t).1 (aM t).2).2 l1 L ro (aF s2 (aM t).1 (aM t).2).1):=by
 have h:=r_Inv hg.F hg.d2.inv.ok (hg.t2.trans hg.tr) hg.E (d4 hm) t hs hg.op2 (by have:=hg.d2.len; omega)
 rw [(l4 hg.d2.inv (fun ln h=>(kw ln h).1)).1] at h
 refine h.mono ?_
 rintro e w2 ⟨h1,⟨RE,RF⟩,⟨h2,h3⟩,h4⟩
 exact ⟨h1,⟨z.q,RE,RF⟩,⟨hg.g,h2,h3,hg.d1,hg.d2.invoice (fun ln h=>(kw ln h).1),hg.t1,ni.trans hg.t2,hg.tr,hg.mb⟩,uW (s:=(aF s2 (aM t).1 (aM t).2).2) h4⟩
theorem sZ (hm:Mem w (l1++y.own tol s2 z L) ro) (hg:JG m y tol s1 s2 z):Calls Tryz.prog 18 #[Pt y.x.pO] w fun e w'=>e=.returned (.string ⟨(cF (jG s1.L)).toArray⟩)∧Later w w':=by
 obtain rfl:=hg.t1
 exact k_EncO hm hg.g (by have:=hg.d1.len; omega)
theorem ta (hm:Mem w (l1++y.own tol s2 z L) ro) (hg:JG m y tol s1 s2 z):Calls Tryz.prog 24 #[Pt y.x.pF] w fun e w'=>e=.returned (.string ⟨(cF (er s1.fs)).toArray⟩)∧Later w w':=by
 obtain rfl:=hg.t1
 exact k_EncF hm hg.g (by have:=hg.op1.len; omega) hg.op1.srt hg.op1.fg
theorem jr_EncO (hm:Mem w (l1++y.own tol s2 z L) ro) (hg:JG m y tol s1 s2 z):Calls Tryz.prog 41 #[Pt y.pR] w fun e w'=>e=.returned (.string ⟨(cF (jG s2.L)).toArray⟩)∧Later w w':=r_EncO w (aa (vs:=[Pt y.pG,Vi y.tr,au z.RE s2.L.length]) (off:=2) (.head _) rfl w (d4 hm)) ((d4 hm).rowIn (fun p hp=>.tail _ (List.mem_append_left _ hp))) hg.E (by have:=hg.d2.len; omega) hg.d2.inv.ok.L
theorem jr_EncF (hm:Mem w (l1++y.own tol s2 z L) ro) (hg:JG m y tol s1 s2 z):Calls Tryz.prog 76 #[Pt y.pG] w fun e w'=>e=.returned (.string ⟨(cF (er s2.fs)).toArray⟩)∧Later w w':=wn w (aa (vs:=[au z.RF s2.fs.length]) (List.mem_append_right _ (.head _)) rfl w (d4 hm)) ((d4 hm).rowIn (fun p hp=>List.mem_append_right _ (.tail _ (List.mem_append_left _ hp)))) hg.F (by have:=hg.op2.len; omega) hg.op2.fg
theorem uZ (hm:Mem w (l1++y.own tol s2 z L) ro) (hg:JG m y tol s1 s2 z) {id:Int} (hid:aj id):Calls Tryz.prog 11 #[Pt y.x.pO,Vi id] w fun e w'=>e=.returned (.tuple #[.agg (zw (cq s1.L id)).1.cells.toArray,.bool (cq s1.L id).isSome])∧Later w w':=by
 obtain rfl:=hg.t1
 exact k_Order hm hg.g hid
theorem jr_Order (hm:Mem w (l1++y.own tol s2 z L) ro) (hg:JG m y tol s1 s2 z) (id:Int):Calls Tryz.prog 38 #[Pt y.pR,Vi id] w fun e w'=>e=.returned (.tuple #[.agg (zw (cq s2.L id)).1.cells.toArray,.bool (cq s2.L id).isSome])∧Later w w':=r_Order w (aa (vs:=[Pt y.pG,Vi y.tr,au z.RE s2.L.length]) (off:=2) (.head _) rfl w (d4 hm)) ((d4 hm).rowIn (fun p hp=>.tail _ (List.mem_append_left _ hp))) hg.E id
theorem jp_All (hm:Mem w (l1++y.own tol s2 z L) ro) (hg:JG m y tol s1 s2 z):Calls Tryz.prog 20 #[Pt y.x.pO] w fun e w'=>∃ v,e=.returned v∧Later w w'∧ab i8 (fun b=>w.heap.size≤b) w' v (s1.L.map (·.1.id)):=by
 obtain rfl:=hg.t1
 exact k_All hm hg.g (by have:=hg.d1.len; omega)
theorem jr_All (hm:Mem w (l1++y.own tol s2 z L) ro) (hg:JG m y tol s1 s2 z):Calls Tryz.prog 40 #[Pt y.pR] w fun e w'=>∃ v,e=.returned v∧Later w w'∧ab i8 (fun b=>w.heap.size≤b) w' v (s2.L.map (·.1.id)):=r_All w (aa (vs:=[Pt y.pG,Vi y.tr,au z.RE s2.L.length]) (off:=2) (.head _) rfl w (d4 hm)) ((d4 hm).rowIn (fun p hp=>.tail _ (List.mem_append_left _ hp))) hg.E (by have:=hg.d2.len; omega) hg.d2.inv.ok.L
theorem yi (hm:Mem w (l1++y.own tol s2 z L) ro) (hg:JG m y tol s1 s2 z) {id:Int} (hid:aj id):Calls Tryz.prog 31 #[Pt y.x.pF,Vi id] w fun e w'=>e=.returned (Vi (gb s1.fs id))∧Later w w':=by
 obtain rfl:=hg.t1
 exact k_Free hm hg.g hid
theorem jp_Fund (hm:Mem w (l1++y.own tol s2 z L) ro) (hg:JG m y tol s1 s2 z) {id:Int} (hid:aj id) {f:FSt} (hl:fl s1.fs id=some f):Calls Tryz.prog 30 #[Pt y.x.pF,Vi id] w fun e w'=>(∃ i p,e=.returned (.tuple #[.agg (eN ⟨i,p,f⟩).toArray,.bool true]))∧Later w w':=by
 obtain rfl:=hg.t1
 exact k_Fund hm hg.g hid hl
end
open Go.RowKit Go.PK
theorem tc (q0 q1:Int) (hq0:aj q0) (w:World) :
  Calls Tryz.prog 28 #[.int .i64 q0,.int .i64 q1] w fun e w'=>∃ u:Jx×Jq,e=.returned (.tuple #[.agg [Value.pointer (some ⟨u.1.x.pO,0,none⟩),.pointer (some ⟨u.1.x.pF,0,none⟩),.pointer (some ⟨u.1.pR,0,none⟩)].toArray,.bool true])∧JG (q0%5000) u.1 (min (max q1 0) 1000000) (⟨[(⟨1,0,⟨20000,0,0⟩⟩:FG),⟨2,1,⟨9000,0,0⟩⟩,⟨3,1,⟨(q0%5000),0,0⟩⟩],(min (max q1 0) 1000000),[]⟩:SG) (⟨[(⟨1,0,⟨20000,0,0⟩⟩:FG),⟨2,1,⟨9000,0,0⟩⟩,⟨3,1,⟨(q0%5000),0,0⟩⟩],(min (max q1 0) 1000000),[]⟩:SG) u.2∧Mem w' ([]++u.1.own (min (max q1 0) 1000000) (⟨[(⟨1,0,⟨20000,0,0⟩⟩:FG),⟨2,1,⟨9000,0,0⟩⟩,⟨3,1,⟨(q0%5000),0,0⟩⟩],(min (max q1 0) 1000000),[]⟩:SG) u.2 []) [(w,fun _=>True)]:=by
 have hop:opF [(⟨1,0,⟨20000,0,0⟩⟩:FG),⟨2,1,⟨9000,0,0⟩⟩,⟨3,1,⟨(q0%5000),0,0⟩⟩]:=opF.new (m:=q0%5000) rfl (by omega) (DOK.new (m:=q0%5000) (tol:=0) (by omega) (by decide)).inv.ok.fs
 refine enter (vs:=[.int .i64 q0,.int .i64 q1]) Tryz.func28 rfl Tryz.ntmps28 rfl ?_
 refine Rn [3,28,1,9,0] fun p4=>?_
 refine fq (τ:=Nat×ak) (fun z=>Value.pointer (some ⟨z.1,0,none⟩)) (fun z=>ag 5 z.2 3 (ax cD [(⟨1,0,⟨20000,0,0⟩⟩:FG),⟨2,1,⟨9000,0,0⟩⟩,⟨3,1,⟨(q0%5000),0,0⟩⟩])) (fun z=>([]++(bD z.1 z.2 3++[]))++[(p4,Obj.cells [Value.pointer (none),.pointer (none),.pointer (none)].toArray 64)]) rfl rfl rfl Tryz.func75 Zk rfl (fun w1 hw1=>(r_Money q0 w1 hq0).mono fun e w2 ⟨z,h1,h2,h3⟩=>⟨z,h1,h3.base (by simp),h2,hw1.join2 h3⟩) ?_
 rintro ⟨pG,RF⟩ hRF
 dsimp only at hRF
 refine Rn [1,2,5] ?_
 obtain ⟨E,hEs⟩:∃ E:ByteArray,(⟨(cF (er [(⟨1,0,⟨20000,0,0⟩⟩:FG),⟨2,1,⟨9000,0,0⟩⟩,⟨3,1,⟨(q0%5000),0,0⟩⟩])).toArray⟩:ByteArray)=E:=⟨_,rfl⟩
 refine Zr (Xm ?_)
 refine np (v:=Value.string E) rfl rfl rfl Tryz.func76 Zk rfl (fun w1 hw1=>by
  have h:=wn (pG:=pG) (R:=RF) (fs:=[(⟨1,0,⟨20000,0,0⟩⟩:FG),⟨2,1,⟨9000,0,0⟩⟩,⟨3,1,⟨(q0%5000),0,0⟩⟩]) w1 (aa (vs:=[au RF 3]) (.head _) rfl w1 hw1) (hw1.rowIn (fun p hp=>by simp [bD,hp])) hRF (by show 3≤5000; decide) hop.fg
  rw [hEs] at h; exact h) ?_
 refine fq (τ:=Nat×Nat×Nat×Array MapEntry×List FM×List (Nat×Obj)) (fun p=>.tuple #[.pointer (some ⟨p.1,0,none⟩),.int .i64 0]) (fun p=>MapC Tryz.prog 3 p.2.2.2.1 p.2.2.1 (cC p.2.2.2.2.1)∧bW p.2.2.2.2.1=[(⟨1,0,⟨20000,0,0⟩⟩:FG),⟨2,1,⟨9000,0,0⟩⟩,⟨3,1,⟨(q0%5000),0,0⟩⟩]) (fun p=>((p.1,Obj.cells (bP p.2.1 (fH [(⟨1,0,⟨20000,0,0⟩⟩:FG),⟨2,1,⟨9000,0,0⟩⟩,⟨3,1,⟨(q0%5000),0,0⟩⟩])).toArray 125)::(p.2.1,Obj.map p.2.2.2.1 p.2.2.1)::(FB 130 p.2.2.2.2.1++p.2.2.2.2.2))++(([]++(bD (pG,RF).1 (pG,RF).2 3++[]))++[(p4,Obj.cells [Value.pointer (none),.pointer (none),.pointer (none)].toArray 64)])) rfl rfl rfl Tryz.func47 Zk rfl (fun w1 hw1=>by
  have h:=g_OpenF (m:=q0%5000) (fs:=[(⟨1,0,⟨20000,0,0⟩⟩:FG),⟨2,1,⟨9000,0,0⟩⟩,⟨3,1,⟨(q0%5000),0,0⟩⟩]) rfl w1 hop
  rw [hEs] at h
  exact h.mono fun e w2 ⟨p,h1,h2,h3,h4⟩=>⟨p,h1,h4.base (by simp),⟨h2,h3⟩,hw1.join2 h4⟩) ?_
 rintro ⟨pF,mF,ckF,esF,ms,Lb⟩ ⟨hMF,hms⟩
 dsimp only at hMF hms
 refine Xm ?_
 refine Xv rfl (eI rfl rfl) (Xv rfl (eI rfl rfl) ?_)
 refine Rn [1,1,9,0,0,0] ?_
 refine fq (τ:=Nat) (fun z=>Value.pointer (some ⟨z,0,none⟩)) (fun _=>True) (fun z=>[(z,Obj.cells [.pointer (some ⟨pG,0,none⟩),.int .i64 q1,au none 0].toArray 91)]++(((pF,Obj.cells (bP mF (fH [(⟨1,0,⟨20000,0,0⟩⟩:FG),⟨2,1,⟨9000,0,0⟩⟩,⟨3,1,⟨(q0%5000),0,0⟩⟩])).toArray 125)::(mF,Obj.map esF ckF)::(FB 130 ms++Lb))++(([]++(bD (pG,RF).1 (pG,RF).2 3++[]))++[(p4,Obj.cells [Value.pointer (none),.pointer (none),.pointer (none)].toArray 64)]))) rfl rfl rfl Tryz.func77 Zk rfl (fun w1 hw1=>(r_NewO (pG:=pG) q1 w1).mono fun e w2 ⟨z,h1,h2⟩=>⟨z,h1,h2.base (by simp),trivial,hw1.join2 h2⟩) fun pR _=>?_
 refine Xv (v:=Value.agg [Value.pointer (none),.pointer (some ⟨pF,0,none⟩),.pointer (some ⟨pR,0,none⟩)].toArray) rfl (aH (cs:=[Value.pointer (none),.pointer (some ⟨pF,0,none⟩),.pointer (some ⟨pR,0,none⟩)]) (places:=[(0,1),(1,1),(2,1)]) u64 zr64 Zk rfl rfl) ?_
 refine Rn [28,32,2,5,3,0,37,2] fun p9 b24 hb24=>?_
 refine rq rfl (fun hc24=>?_) (fun hc24=>?_)
 ·exfalso
  rw [hb24] at hc24
  revert hc24; simp
 refine Rn [23,0,0] ?_
 refine fq (τ:=Nat×Nat) (fun z=>Value.pointer (some ⟨z.1,0,none⟩)) (fun _=>True) (fun z=>[(z.1,Obj.cells (cJ pF (min (max q1 0) 1000000) z.2).toArray 38),(z.2,Obj.map #[] 0)]++((p9,Obj.cells [Value.pointer (none),.pointer (some ⟨pF,0,none⟩),.pointer (some ⟨pR,0,none⟩)].toArray 64)::([(pR,Obj.cells [.pointer (some ⟨pG,0,none⟩),.int .i64 q1,au none 0].toArray 91)]++(((pF,Obj.cells (bP mF (fH [(⟨1,0,⟨20000,0,0⟩⟩:FG),⟨2,1,⟨9000,0,0⟩⟩,⟨3,1,⟨(q0%5000),0,0⟩⟩])).toArray 125)::(mF,Obj.map esF ckF)::(FB 130 ms++Lb))++(([]++(bD (pG,RF).1 (pG,RF).2 3++[]))++[(p4,Obj.cells [Value.pointer (none),.pointer (none),.pointer (none)].toArray 64)]))))) rfl rfl rfl Tryz.func17 Zk rfl (fun w1 hw1=>(c_ONew q1 w1).mono fun e w2 ⟨z,h1,h2⟩=>⟨z,h1,h2.base (by simp),trivial,hw1.join2 h2⟩) ?_
 rintro ⟨pO,mO⟩ _
 refine Rn [4] ?_
 refine aG (cs:=[Value.pointer (none),.pointer (some ⟨pF,0,none⟩),.pointer (some ⟨pR,0,none⟩)]) (off:=0) (e:=64) (l2:=[(pR,Obj.cells [.pointer (some ⟨pG,0,none⟩),.int .i64 q1,au none 0].toArray 91)]++(((pF,Obj.cells (bP mF (fH [(⟨1,0,⟨20000,0,0⟩⟩:FG),⟨2,1,⟨9000,0,0⟩⟩,⟨3,1,⟨(q0%5000),0,0⟩⟩])).toArray 125)::(mF,Obj.map esF ckF)::(FB 130 ms++Lb))++(([]++(bD (pG,RF).1 (pG,RF).2 3++[]))++[(p4,Obj.cells [Value.pointer (none),.pointer (none),.pointer (none)].toArray 64)]))) [(pO,Obj.cells (cJ pF (min (max q1 0) 1000000) mO).toArray 38),(mO,Obj.map #[] 0)] rfl rfl rfl rfl sz27 rfl (by show 0+1≤3; decide) ?_
 refine Rn [2,5] ?_
 refine dY (own':=(p9,Obj.cells [Value.pointer (some ⟨pO,0,none⟩),.pointer (some ⟨pF,0,none⟩),.pointer (some ⟨pR,0,none⟩)].toArray 64)::(p4,Obj.cells [Value.pointer (none),.pointer (none),.pointer (none)].toArray 64)::(pO,Obj.cells (cJ pF (min (max q1 0) 1000000) mO).toArray 38)::(mO,Obj.map #[] 0)::(mF,Obj.map esF ckF)::(pF,Obj.cells (bP mF (fH [(⟨1,0,⟨20000,0,0⟩⟩:FG),⟨2,1,⟨9000,0,0⟩⟩,⟨3,1,⟨(q0%5000),0,0⟩⟩])).toArray 125)::(FB 130 ms++(Lb++((pR,Obj.cells [.pointer (some ⟨pG,0,none⟩),.int .i64 q1,au none 0].toArray 91)::(bD pG RF 3++[]))))) (ro':=[(w,fun _=>True)]) (fun w1 h=>h.perm (perm_cnt (fun p=>by simp only [List.countP_append,List.countP_cons,List.countP_nil,Nat.add_zero,Nat.zero_add]; ac_rfl))) ?_
 refine cL ([(p9,Obj.cells [Value.pointer (some ⟨pO,0,none⟩),.pointer (some ⟨pF,0,none⟩),.pointer (some ⟨pR,0,none⟩)].toArray 64)]) 6 (.flt 0 (.flt 1 (.flt 2 (.flt 3 (.gr 4 (.flt 5 .done) .nil))))) (.cons_cons _ (List.nil_sublist _)) Zk Zk ?_
 refine Rn [84,41,49] ?_
 refine dq (v:=Value.bool true) rfl rfl (v_nep (p:=some ⟨pO,0,none⟩) u27 rfl rfl) ?_
 refine Rn [42] ?_
 refine bX [(p9,Obj.cells [Value.pointer (some ⟨pO,0,none⟩),.pointer (some ⟨pF,0,none⟩),.pointer (some ⟨pR,0,none⟩)].toArray 64)] rfl rfl rfl rfl rQ rfl rfl ?_
 refine Ze ?_
 refine dK (.cons_cons _ (List.nil_sublist _)) ?_
 refine Rn [55,56,2,6] ?_
 have D:=DOK.new (m:=q0%5000) (tol:=(min (max q1 0) 1000000)) (by omega) (by omega)
 exact f9 (cs:=[Value.pointer (some ⟨pO,0,none⟩),.pointer (some ⟨pF,0,none⟩),.pointer (some ⟨pR,0,none⟩)].toArray) rfl rfl rfl (.tail _ (.head _)) u64 rfl rQ (fun w' hm=>⟨((⟨(⟨pO,pF,mF,ckF,esF,fH [(⟨1,0,⟨20000,0,0⟩⟩:FG),⟨2,1,⟨9000,0,0⟩⟩,⟨3,1,⟨(q0%5000),0,0⟩⟩]⟩:Fx),pR,pG,q1,Lb⟩:Jx),(⟨⟨mO,0,#[],ms⟩,none,RF⟩:Jq)),rfl,⟨⟨hMF,by show MapC _ _ #[] 0 (fR []); rw [xJ]; exact MapC.empty,hms,D.inv.ok⟩,bG,hRF,D,D,rfl,rfl,rfl,by omega⟩,hm.less ((List.sublist_cons_self _ _).trans (List.sublist_cons_self _ _)) (fun _ h=>h)⟩)
open Go.RowKit Go.PK
theorem r_chg (p n:Int) (w:World) (hp:0≤p∧p≤1000000000) (hn:aj n) :
  Calls Tryz.prog 83 #[Vi p,Vi n] w fun e w'=>e=.returned (Vi (ce p n))∧Later w w':=by
 refine enter Tryz.func83 rfl Tryz.ntmps83 rfl ?_
 refine Rn [3,1,2,5,3,0] ?_
 refine Xc (v:=Vi (n%6)) rfl Tryz.func43 rfl (fun w1 hw1=>ix n 6 w1 hn (by decide)) ?_
 have hm6:=cN n (m:=6) (by decide)
 refine Rn [2,14,5,3,38,1,2,12] fun b8 hb8=>Aw (fun hc7=>?_) fun hc7=>?_
 ·refine Rn [16,10] (Aw (fun hc7=>?_) fun hc7=>?_)
  ·simp only [hb8,Qz,ne_eq] at hc7
   refine Rn [3,0,1,2,6,15,8] ?_
   refine aw rfl rfl (fun w' hm=>⟨?_,hm.b⟩)
   congr 2; unfold ce; repeat' split
   all_goals omega
  simp only [hb8,Qz,ne_eq] at hc7
  refine Rn [3,38,1,2,12] fun b12 hb12=>Aw (fun hc11=>?_) fun hc11=>?_
  ·refine Rn [3,0,0] ?_
   refine Xv (v:=Vi (p / 20)) rfl (iq (c:=p / 20) rfl rfl (by decide) (by rw [Int.tdiv_eq_ediv_of_nonneg hp.1]) (by omega)) ?_
   refine Rn [26,1,2,6,15,8] ?_
   refine aw rfl rfl (fun w' hm=>⟨?_,hm.b⟩)
   congr 2; unfold ce; repeat' split
   all_goals omega
  refine Rn [3,38,1,2,12] fun b18 hb18=>Aw (fun hc17=>?_) fun hc17=>?_
  ·refine Rn [3,0,0] ?_
   refine Xv (v:=Vi (p / 20)) rfl (iq (c:=p / 20) rfl rfl (by decide) (by rw [Int.tdiv_eq_ediv_of_nonneg hp.1]) (by omega)) ?_
   refine Rn [54] ?_
   refine Xv rfl (kG rfl rfl) ?_
   refine Rn [1,2,6,15,8] ?_
   refine aw rfl rfl (fun w' hm=>⟨?_,hm.b⟩)
   congr 2; unfold ce; repeat' split
   all_goals omega
  refine Rn [3,38,1,2,12] fun b25 hb25=>Aw (fun hc24=>?_) fun hc24=>?_
  ·refine Rn [3,0,0] ?_
   refine Xv (v:=Vi (p / 20)) rfl (iq (c:=p / 20) rfl rfl (by decide) (by rw [Int.tdiv_eq_ediv_of_nonneg hp.1]) (by omega)) ?_
   refine Rn [26,26,1,2,6,15,8] ?_
   refine aw rfl rfl (fun w' hm=>⟨?_,hm.b⟩)
   congr 2; unfold ce; repeat' split
   all_goals omega
  refine Rn [45,27,17,3,0,0] ?_
  refine Xc (v:=Vi (n%90)) rfl Tryz.func43 rfl (fun w1 hw1=>ix n 90 w1 hn (by decide)) ?_
  have hm33:=cN n (m:=90) (by decide)
  refine Rn [54] ?_
  refine Xv rfl (kG rfl rfl) ?_
  refine Rn [1,2,6] ?_
  refine aw rfl rfl (fun w' hm=>⟨?_,hm.b⟩)
  congr 2; unfold ce; repeat' split
  all_goals omega
 refine Rn [18,38,1,2,12] fun b9 hb9=>Aw (fun hc7=>?_) fun hc7=>?_
 ·refine Rn [3,0,1,2,6,15,8] ?_
  refine aw rfl rfl (fun w' hm=>⟨?_,hm.b⟩)
  congr 2; unfold ce; repeat' split
  all_goals omega
 refine Rn [3,38,1,2,12] fun b12 hb12=>Aw (fun hc11=>?_) fun hc11=>?_
 ·refine Rn [3,0,0] ?_
  refine Xv (v:=Vi (p / 20)) rfl (iq (c:=p / 20) rfl rfl (by decide) (by rw [Int.tdiv_eq_ediv_of_nonneg hp.1]) (by omega)) ?_
  refine Rn [26,1,2,6,15,8] ?_
  refine aw rfl rfl (fun w' hm=>⟨?_,hm.b⟩)
  congr 2; unfold ce; repeat' split
  all_goals omega
 refine Rn [3,38,1,2,12] fun b18 hb18=>Aw (fun hc17=>?_) fun hc17=>?_
 ·refine Rn [3,0,0] ?_
  refine Xv (v:=Vi (p / 20)) rfl (iq (c:=p / 20) rfl rfl (by decide) (by rw [Int.tdiv_eq_ediv_of_nonneg hp.1]) (by omega)) ?_
  refine Rn [54] ?_
  refine Xv rfl (kG rfl rfl) ?_
  refine Rn [1,2,6,15,8] ?_
  refine aw rfl rfl (fun w' hm=>⟨?_,hm.b⟩)
  congr 2; unfold ce; repeat' split
  all_goals omega
 refine Rn [3,38,1,2,12] fun b25 hb25=>Aw (fun hc24=>?_) fun hc24=>?_
 ·refine Rn [3,0,0] ?_
  refine Xv (v:=Vi (p / 20)) rfl (iq (c:=p / 20) rfl rfl (by decide) (by rw [Int.tdiv_eq_ediv_of_nonneg hp.1]) (by omega)) ?_
  refine Rn [26,26,1,2,6,15,8] ?_
  refine aw rfl rfl (fun w' hm=>⟨?_,hm.b⟩)
  congr 2; unfold ce; repeat' split
  all_goals omega
 refine Rn [45,27,17,3,0,0] ?_
 refine Xc (v:=Vi (n%90)) rfl Tryz.func43 rfl (fun w1 hw1=>ix n 90 w1 hn (by decide)) ?_
 have hm33:=cN n (m:=90) (by decide)
 refine Rn [54] ?_
 refine Xv rfl (kG rfl rfl) ?_
 refine Rn [1,2,6] ?_
 refine aw rfl rfl (fun w' hm=>⟨?_,hm.b⟩)
 congr 2; unfold ce; repeat' split
 all_goals omega
theorem r_Reply {pR:Nat} (k0 a b c:Int) (ha:aj a) (hb:aj b) (hc:aj c) {R:ak} {es:List EN} (w:World) (h1:w.cell? ⟨pR,2,none⟩=some (au R es.length)) (hin:rowIn w 144 R) (hR:ag 10 R es.length (ax du es)) (hsm:∀ e∈es,pJ e) :
  Calls Tryz.prog 33 #[Pt pR,.agg [Vi k0,Vi a,Vi b,Vi c].toArray] w fun e w'=>∃ t:ByteArray,e=.returned (.string t)∧Later w w'∧t.size≤150000000:=by
 refine enter Tryz.func33 rfl Tryz.ntmps33 rfl ?_
 refine Rn [3,36,1,9,152,7] fun p3=>?_
 refine Xc (v:=Vi (a%6)) rfl Tryz.func43 rfl (fun w1 hw1=>ix a 6 w1 ha (by decide)) ?_
 have hm11:=cN a (m:=6) (by decide)
 refine Rn [26] ?_
 refine Xv (v:=Value.agg (⟨1+a%6,1,0,0,1,100,0,0,0⟩:PK.Ord).cells.toArray) rfl (aH (cs:=(⟨1+a%6,1,0,0,1,100,0,0,0⟩:PK.Ord).cells) (places:=[(0,1),(1,1),(2,2),(4,1),(5,1),(6,1),(7,1),(8,1)]) f4 gI Zk rfl rfl) ?_
 refine Rn [28,32,9,0,152,7] fun p5=>?_
 refine Xc rfl Tryz.func82 rfl (fun w1 hw1=>dU (id:=1+a%6) w1 (an (.head _) trivial h1 w1 hw1) (hin.later hw1.b) hR) ?_
 refine Rn [1,2] ?_
 refine cO (σ:=PK.Ord) (fun x=>midO x) (fun x=>[(3,Pt p3),(5,Pt p5)]) (fun x=>(Bk p5 x.cells 25)::[(Bk p3 [Vi k0,Vi a,Vi b,Vi c] 42)]) (fun x=>[(w,fun _=>True)]) ?_ ?_
 ·refine Rn [3,0,57,2,12] fun b19 hb19=>Aw (fun hc19=>?_) fun hc19=>?_
  ·obtain ⟨k,hk,hix⟩:=yj (es:=es) (id:=1+a%6) (by omega)
   rw [hix]
   obtain ⟨b2,cs2,c2,rfl⟩:=bN bf (by decide) hR hk
   have hs:=hsm _ (List.getElem_mem hk)
   unfold pJ at hs
   have hch:=pC (p:=es[k].2) (by omega) c
   refine Rn [3,0,11,152] ?_
   refine Xl rfl mW rfl (an (.head _) trivial h1) ?_
   refine Rn [0,46,152] ?_
   refine Xv rfl (bj (vs:=es[k].1.cells) f4 rfl cm rfl (fun i hi=>an (.head _) trivial (hin.cell (cg bf hR hk (j:=i) (by rw [show du es[k]=es[k].1.cells++[Vi es[k].2] from rfl,List.getElem?_append_left hi]; exact List.getElem?_eq_getElem hi))))) ?_
   refine Rn [32,2,5] ?_
   refine bc 12 ?_
   refine Rn [0,11,152] ?_
   refine Xl rfl mW rfl (an (.head _) trivial h1) ?_
   refine Rn [0,46,152] ?_
   refine Xl rfl u3 rfl (an (.head _) trivial (hin.cell (cg bf hR hk (j:=9) rfl))) ?_
   refine Rn [152,7] ?_
   refine Xc rfl Tryz.func83 rfl (fun w1 hw1=>r_chg es[k].2 c w1 (by omega) hc) ?_
   refine Rn [152] ?_
   refine aG (cs:=es[k].1.cells) (off:=5) (e:=25) (l2:=[(Bk p3 [Vi k0,Vi a,Vi b,Vi c] 42)]) [] rfl rfl rfl rfl cT rfl (by show 5+1≤9; decide) ?_
   refine Rn [2,5] ?_
   refine bc 9 ?_
   refine Rn [152] ?_
   refine Xl rfl u3 rfl (aa (vs:=({ es[k].1 with price:=ce es[k].2 c }:PK.Ord).cells) (v:=Vi es[k].1.copies) (.head _) rfl) ?_
   refine Rn [152] ?_
   refine Xl rfl u3 rfl (aa (vs:=[Vi k0,Vi a,Vi b,Vi c]) (.tail _ (.head _)) rfl) (Xc (v:=Vi (b%4)) rfl Tryz.func43 rfl (fun w1 hw1=>ix b 4 w1 hb (by decide)) ?_)
   have hm44:=cN b (m:=4) (by decide)
   refine Rn [54,26] ?_
   refine Xv (v:=Vi (max (es[k].1.copies - b%4+1) 1)) rfl (kG rfl rfl) ?_
   refine Rn [152] ?_
   refine aG (cs:=({ es[k].1 with price:=ce es[k].2 c }:PK.Ord).cells) (off:=4) (e:=25) (l2:=[(Bk p3 [Vi k0,Vi a,Vi b,Vi c] 42)]) [] rfl rfl rfl rfl cT rfl (by show 4+1≤9; decide) ?_
   refine Rn [9,152] ?_
   refine Xl rfl u3 rfl (aa (vs:=[Vi k0,Vi a,Vi b,Vi c]) (.tail _ (.head _)) rfl) (Xv rfl (jL rfl rfl Zo) ?_)
   refine Rn [37,2,12] fun b52 hb52=>Aw (fun hc52=>?_) fun hc52=>?_
   ·refine Rn [18,0,11,152] ?_
    refine Xl rfl mW rfl (an (.head _) trivial h1) ?_
    refine Rn [0,46,152,152] ?_
    refine Xl rfl u3 rfl (an (.head _) trivial (hin.cell (cg bf hR hk (j:=4) rfl))) ?_
    refine Rn [152] ?_
    refine aG (cs:=({ es[k].1 with price:=ce es[k].2 c,copies:=max (es[k].1.copies - b%4+1) 1 }:PK.Ord).cells) (off:=4) (e:=25) (l2:=[(Bk p3 [Vi k0,Vi a,Vi b,Vi c] 42)]) [] rfl rfl rfl rfl cT rfl (by show 4+1≤9; decide) ?_
    refine Ze ?_
    exact cv ({ es[k].1 with price:=ce es[k].2 c,copies:=es[k].1.copies }:PK.Ord) (by unfold midO; dsimp only; omega) Zu (fun _ h=>h)
   refine eA ?_
   exact cv ({ es[k].1 with price:=ce es[k].2 c,copies:=max (es[k].1.copies - b%4+1) 1 }:PK.Ord) (by unfold midO; dsimp only; omega) Zu (fun _ h=>h)
  refine eA ?_
  exact cv (⟨1+a%6,1,0,0,1,100,0,0,0⟩:PK.Ord) (by unfold midO; dsimp only; omega) Zu (fun _ h=>h)
 rintro x hx
 refine cO (σ:=PK.Ord) (fun x=>x.ok∧(0≤x.fund∧x.fund≤10)) (fun x=>[(3,Pt p3),(5,Pt p5)]) (fun x=>(Bk p5 x.cells 25)::[(Bk p3 [Vi k0,Vi a,Vi b,Vi c] 42)]) (fun x=>[(w,fun _=>True)]) ?_ ?_
 ·refine Zs ?_
  unfold midO at hx
  refine Rn [18,152,7] ?_
  refine Xv rfl (jL rfl rfl Zo) ?_
  refine Rn [38,2,12] fun b66 hb66=>Aw (fun hc66=>?_) fun hc66=>?_
  ·refine Rn [18,152,152,7,26,152,152] ?_
   refine aG (cs:=x.cells) (off:=3) (e:=25) (l2:=[(Bk p3 [Vi k0,Vi a,Vi b,Vi c] 42)]) [] rfl rfl rfl rfl cT rfl (by show 3+1≤9; decide) ?_
   refine Ze ?_
   exact cv { x with num:=x.num+1 } ⟨(by unfold PK.Ord.ok aj; dsimp only; omega),by dsimp only; omega⟩ Zu (fun _ h=>h)
  refine eA ?_
  exact cv x ⟨by unfold PK.Ord.ok aj; omega,by omega⟩ Zu (fun _ h=>h)
 rintro x hx
 refine cO (σ:=PK.Ord) (fun x=>x.ok) (fun x=>[(3,Pt p3),(5,Pt p5)]) (fun x=>(Bk p5 x.cells 25)::[(Bk p3 [Vi k0,Vi a,Vi b,Vi c] 42)]) (fun x=>[(w,fun _=>True)]) ?_ ?_
 ·refine Zs ?_
  obtain ⟨hx,hf⟩:=hx
  refine Rn [18,152,7] ?_
  refine Xv rfl (jL rfl rfl Zo) ?_
  refine Rn [38,2,12] fun b76 hb76=>Aw (fun hc76=>?_) fun hc76=>?_
  ·unfold PK.Ord.ok aj at hx
   refine Rn [18,152,7,26,152] ?_
   refine aG (cs:=x.cells) (off:=1) (e:=25) (l2:=[(Bk p3 [Vi k0,Vi a,Vi b,Vi c] 42)]) [] rfl rfl rfl rfl cT rfl (by show 1+1≤9; decide) ?_
   refine Ze ?_
   exact cv { x with fund:=x.fund+1 } (by unfold PK.Ord.ok aj; dsimp only; omega) Zu (fun _ h=>h)
  refine eA ?_
  exact cv x hx Zu (fun _ h=>h)
 rintro x hx
 refine Rn [3,39] ?_
 refine Xd (R:=fun v wa wb=>ab aZ (fun b=>wa.heap.size≤b) wb v (aU x)) rfl Tryz.func84 rfl (fun w1 hw1=>(ow x w1 hx).mono fun e w2 ⟨v,h1,h2,h3,_⟩=>⟨_,h1,h2,h3⟩) fun v83 wa83 wb83 hm83 hl83 hR83=>?_
 refine Xc (v:=Value.tuple #[.string ⟨(fX (aU x)).toArray⟩,Vi 0]) rfl Tryz.func25 rfl (fun w1 hw1=>by
  have h:=jV (l:=aU x) w1 (bY hR83 hw1 Zh hm83) (by have h2:(fX (aU x)).toArray.size≤150000000:=(lm x).2; rw [List.size_toArray] at h2; omega)
  rw [(lm x).1] at h; exact h) ?_
 refine Rn [0,20,20,1,1,9,0,1,2,6] ?_
 exact aw rfl rfl (fun w' hm=>⟨_,rfl,hm.b,(lm x).2⟩)
theorem lp {ls:List PK.Ord} {t:ByteArray} (h:∀ o∈ls,ej (pf o)) (hn:ls.length≤10) (ht:t.size≤100):u6 (bo ls t)=(⟨(fX (bo ls t)).toArray⟩,0)∧(⟨(fX (bo ls t)).toArray⟩:ByteArray).size≤150000000∧True:=⟨(rm h hn ht).1,(rm h hn ht).2,trivial⟩
theorem mQ {ls:List PK.Ord} (h:∀ o∈ls,ej (pf o)) (hn:ls.length≤10):u6 (bH ls)=(⟨(fX (bH ls)).toArray⟩,0)∧(⟨(fX (bH ls)).toArray⟩:ByteArray).size≤150000000∧True:=⟨(inv_text hn h).1,inv_size hn h,trivial⟩
theorem r_Bill {pR:Nat} (k0 a b c:Int) (ha:aj a) (hb:aj b) (hc:aj c) {R:ak} {es:List EN} (w:World) (h1:w.cell? ⟨pR,2,none⟩=some (au R es.length)) (hin:rowIn w 144 R) (hR:ag 10 R es.length (ax du es)) (hsm:∀ e∈es,pJ e) (hen:∀ e∈es,xC e) :
  Calls Tryz.prog 34 #[Pt pR,.agg [Vi k0,Vi a,Vi b,Vi c].toArray] w fun e w'=>∃ t:ByteArray,e=.returned (.string t)∧Later w w'∧t.size≤150000000:=by
 refine enter Tryz.func34 rfl Tryz.ntmps34 rfl ?_
 refine Rn [3,36,1,9,1,2,5,3,1,2,14] fun p3=>?_
 refine aO (σ:=Nat×ak×List PK.Ord) (fun z=>(z.1:Int)≤1+b%3∧z.1=z.2.2.length∧ag 9 z.2.1 z.1 (po z.2.2)∧∀ x∈z.2.2,lnK x) (fun z=>[(0,Pt pR),(3,Pt p3),(5,au z.2.1 z.1),(6,Vi (z.1:Nat))]) (fun z=>(Bk p3 [Vi k0,Vi a,Vi b,Vi c] 42)::aA 25 z.2.1) (fun z=>[(w,fun _=>True)]) (fun z=>4 - z.1) ((0,none,[])) (⟨by show (0:Int)≤_; omega,rfl,bG,fun x h=>by cases h⟩) (aC Zu (fun _ h=>h)) ?_
 rintro ⟨k,R,xs⟩ ⟨hkL,hln,hR2,hxs⟩
 refine Rn [144] ?_
 dsimp only at hkL hln hR2 hxs
 refine Rn [5,3,0,152,7] ?_
 refine Xc (v:=Vi (b%3)) rfl Tryz.func43 rfl (fun w1 hw1=>ix b 3 w1 hb (by decide)) ?_
 have hm15:=cN b (m:=3) (by decide)
 refine Rn [26,24,2,12] fun b17 hb17=>Aw (fun hc17=>?_) fun hc17=>?_
 ·refine Rn [16,5,14,3,152,7,0,152,7] ?_
  refine Xv rfl (v_mul rfl rfl) (Xv rfl (v_add rfl rfl) ?_)
  obtain ⟨q,hq⟩:∃ q,IntKind.i64.wrap (a+IntKind.i64.wrap ((k:Nat)*c))=q:=⟨_,rfl⟩
  rw [hq]
  have hqi:aj q:=hq▸wrap_rng _
  refine Xc (v:=Vi (q%6)) rfl Tryz.func43 rfl (fun w1 hw1=>ix q 6 w1 hqi (by decide)) ?_
  have hm27:=cN q (m:=6) (by decide)
  refine Rn [26] ?_
  refine Xv (v:=Value.agg (⟨1+q%6,0,0,0,1,100,0,0,0⟩:PK.Ord).cells.toArray) rfl (aH (cs:=(⟨1+q%6,0,0,0,1,100,0,0,0⟩:PK.Ord).cells) (places:=[(0,1),(1,1),(2,2),(4,1),(5,1),(6,1),(7,1),(8,1)]) f4 gI Zk rfl rfl) ?_
  refine Rn [28,32,9,0,152,7] fun p7=>?_
  refine Xc rfl Tryz.func82 rfl (fun w1 hw1=>dU (id:=1+q%6) w1 (an (.head _) trivial h1 w1 hw1) (hin.later hw1.b) hR) ?_
  refine Rn [1,2] ?_
  refine cO (σ:=PK.Ord) (fun x=>lnM x) (fun x=>[(0,Pt pR),(3,Pt p3),(5,au R k),(6,Vi (k:Nat)),(7,Pt p7)]) (fun x=>(Bk p7 x.cells 25)::(Bk p3 [Vi k0,Vi a,Vi b,Vi c] 42)::aA 25 R) (fun x=>[(w,fun _=>True)]) ?_ ?_
  ·refine Rn [3,0,57,2,12] fun b35 hb35=>Aw (fun hc35=>?_) fun hc35=>?_
   ·obtain ⟨j,hj,hix⟩:=yj (es:=es) (id:=1+q%6) (by omega)
    rw [hix]
    obtain ⟨b2,cs2,c2,rfl⟩:=bN bf (by decide) hR hj
    have hs:=hsm _ (List.getElem_mem hj)
    have hn:=hen _ (List.getElem_mem hj)
    unfold pJ at hs
    unfold xC dm at hn
    have hch:=pC (p:=es[j].1.price) (by omega) (c.tdiv 3+(k:Nat))
    have hq3:-4611686018427387904≤c.tdiv 3∧c.tdiv 3≤4611686018427387904   := tdiv3_b hc
    have hkb:(k:Int)≤3:=by omega
    refine Rn [3,0,11,152] ?_
    refine Xl rfl mW rfl (an (.head _) trivial h1) ?_
    refine Rn [0,46,152] ?_
    refine Xv rfl (bj (vs:=es[j].1.cells) f4 rfl cm rfl (fun i hi=>an (.head _) trivial (hin.cell (cg bf hR hj (j:=i) (by rw [show du es[j]=es[j].1.cells++[Vi es[j].2] from rfl,List.getElem?_append_left hi]; exact List.getElem?_eq_getElem hi))))) ?_
    refine Rn [32,2,5] ?_
    refine bc 11 ?_
    refine Rn [152,7,152,7,54,152,7] ?_
    refine Xc (v:=Vi (c%3)) rfl Tryz.func43 rfl (fun w1 hw1=>ix c 3 w1 hc (by decide)) ?_
    have hm51:=cN c (m:=3) (by decide)
    refine Rn [54] ?_
    refine Xv (v:=Vi (max (es[j].1.st - es[j].1.paid - c%3) 1)) rfl (kG rfl rfl) ?_
    refine Rn [152] ?_
    refine aG (cs:=es[j].1.cells) (off:=4) (e:=25) (l2:=(Bk p3 [Vi k0,Vi a,Vi b,Vi c] 42)::aA 25 R) [] rfl rfl rfl rfl cT rfl (by show 4+1≤9; decide) ?_
    refine Rn [2] ?_
    refine bc 16 ?_
    refine Rn [0,11,152] ?_
    refine Xl rfl mW rfl (an (.head _) trivial h1) ?_
    refine Rn [0,46,152,152] ?_
    refine Xl rfl u3 rfl (an (.head _) trivial (hin.cell (cg bf hR hj (j:=5) rfl))) ?_
    refine Rn [152] ?_
    refine Xl rfl u3 rfl (aa (vs:=[Vi k0,Vi a,Vi b,Vi c]) (.tail _ (.head _)) rfl) (Xv (v:=Vi (c.tdiv 3)) rfl (iq (c:=c.tdiv 3) rfl rfl (by decide) rfl (by omega)) ?_)
    refine Rn [0,26] ?_
    refine Xc rfl Tryz.func83 rfl (fun w1 hw1=>r_chg es[j].1.price (c.tdiv 3+(k:Nat)) w1 (by omega) (by unfold aj; omega)) ?_
    refine Rn [152] ?_
    refine aG (cs:=({ es[j].1 with copies:=max (es[j].1.st - es[j].1.paid - c%3) 1 }:PK.Ord).cells) (off:=5) (e:=25) (l2:=(Bk p3 [Vi k0,Vi a,Vi b,Vi c] 42)::aA 25 R) [] rfl rfl rfl rfl cT rfl (by show 5+1≤9; decide) ?_
    refine Ze ?_
    exact cv ({ es[j].1 with copies:=max (es[j].1.st - es[j].1.paid - c%3) 1,price:=ce es[j].1.price (c.tdiv 3+(k:Nat)) }:PK.Ord) (by unfold lnM PK.Ord.okA PK.Ord.ok aj; dsimp only; omega) Zu (fun _ h=>h)
   refine eA ?_
   exact cv (⟨1+q%6,0,0,0,1,100,0,0,0⟩:PK.Ord) (by unfold lnM PK.Ord.okA PK.Ord.ok aj; dsimp only; omega) Zu (fun _ h=>h)
  rintro x hx
  refine Zs ?_
  unfold lnM PK.Ord.okA PK.Ord.ok aj at hx
  refine Rn [18,152] ?_
  refine aG (cs:=x.cells) (off:=1) (e:=25) (l2:=(Bk p3 [Vi k0,Vi a,Vi b,Vi c] 42)::aA 25 R) [] rfl rfl rfl rfl cT rfl (by show 1+1≤9; decide) ?_
  refine Rn [2] ?_
  refine cO (σ:=PK.Ord) (fun x=>lnK x) (fun x=>[(0,Pt pR),(3,Pt p3),(5,au R k),(6,Vi (k:Nat)),(7,Pt p7)]) (fun x=>(Bk p7 x.cells 25)::(Bk p3 [Vi k0,Vi a,Vi b,Vi c] 42)::aA 25 R) (fun x=>[(w,fun _=>True)]) ?_ ?_
  ·refine Rn [3,152,7] ?_
   refine Xv rfl (jL rfl rfl Zo) ?_
   refine Rn [38,2,12] fun b75 hb75=>Aw (fun hc75=>?_) fun hc75=>?_
   ·refine Rn [18,152,152,7,26,152,152] ?_
    refine aG (cs:=({ x with fund:=1 }:PK.Ord).cells) (off:=3) (e:=25) (l2:=(Bk p3 [Vi k0,Vi a,Vi b,Vi c] 42)::aA 25 R) [] rfl rfl rfl rfl cT rfl (by show 3+1≤9; decide) ?_
    refine Ze ?_
    exact cv { x with fund:=1,num:=x.num+1 } (by unfold lnK PK.Ord.okA PK.Ord.ok ej pf aj; dsimp only; omega) Zu (fun _ h=>h)
   refine eA ?_
   exact cv { x with fund:=1 } (by unfold lnK PK.Ord.okA PK.Ord.ok ej pf aj; dsimp only; omega) Zu (fun _ h=>h)
  rintro x hx
  refine Rn [18,0,39] ?_
  refine ac (cs:=x.cells) rfl rfl rfl qx cm gI rfl rfl rfl ?_
  intro p84
  refine be (e:=25) [(Bk p84 x.cells 25),(Bk p7 x.cells 25),(Bk p3 [Vi k0,Vi a,Vi b,Vi c] 42)] (l2:=[]) R (len:=k) (xs:=po xs) rfl rfl rfl rfl (by simp) hR2 qx apO rfl rfl (m:=1) (news:=x.cells) (fun i hi=>aa (vs:=x.cells) (.head _) (by rw [Nat.zero_add]; exact List.getElem?_eq_getElem hi)) rfl Zx (by omega) fun R' hR'=>?_
  refine Rn [1,13,27,17,18,0,26,1,13] ?_
  exact aJ (k+1,R',xs++[x]) ⟨by push_cast; omega,by rw [List.length_append,hln]; rfl,by show ag 9 R' (k+1) (po (xs++[x])); rw [wt]; exact hR',fun y hy=>by
   rcases List.mem_append.1 hy with hy | hy
   ·exact hxs y hy
   rw [List.mem_singleton.1 hy]; exact hx⟩ (by simp only; omega) Zu (fun w1 h=>(h.less (Ls.trans Ls) (fun _ h=>h)).to (by simp))
 have hxl:1≤xs.length∧xs.length≤3:=by omega
 have hwr:∀ o∈xs,ej (pf o):=fun o ho=>(hxs o ho).2
 refine Rn [34,19,19,35,17,3,0] ?_
 refine Xd (R:=fun v wa wb=>ab aZ (fun b=>wa.heap.size≤b) wb v (bH xs)) rfl Tryz.func26 rfl (fun w1 hw1=>(oL (ls:=xs) w1 (x6 (D:=fun _=>True) (e:=25) hR2 hln (fun x hx=>(hxs x hx).1) hw1 (fun p hp=>by simp [hp]) (fun _ _=>trivial))).mono fun e w2 ⟨v,h1,h2,h3⟩=>⟨_,h1,h2,h3⟩) fun v87 wa87 wb87 hm87 hl87 hR87=>?_
 refine Rn [1,2,5,3,152,7] ?_
 refine Xv rfl (jL rfl rfl Zo) ?_
 refine Rn [38,2,12] fun b91 hb91=>Aw (fun hc91=>?_) fun hc91=>?_
 ·refine Zr (Xm ?_)
  refine Xd (R:=fun v wa wb=>ab aZ (fun b=>wa.heap.size≤b) wb v (bo xs ⟨#[49]⟩)) rfl Tryz.func72 rfl (fun w1 hw1=>(vE (ls:=xs) w1 (x6 (D:=fun _=>True) (e:=25) hR2 hln (fun x hx=>(hxs x hx).1) hw1 (fun p hp=>by simp [hp]) (fun _ _=>trivial)) ⟨#[49]⟩ hwr (by omega) (by unfold iD; decide)).mono fun e w2 ⟨v,h1,h2,h3⟩=>⟨_,h1,h2,h3⟩) fun v93 wa93 wb93 hm93 hl93 hR93=>?_
  refine Rn [1,9,0] ?_
  refine Xc (v:=Value.tuple #[.string ⟨(fX (bo xs ⟨#[49]⟩)).toArray⟩,Vi 0]) rfl Tryz.func25 rfl (fun w1 hw1=>by
   have h:=jV (l:=bo xs ⟨#[49]⟩) w1 (bY hR93 hw1 Zh hm93) (by have h2:(fX (bo xs ⟨#[49]⟩)).toArray.size≤150000000:=(lp (t:=⟨#[49]⟩) hwr (by omega) (by decide)).2.1; rw [List.size_toArray] at h2; omega)
   rw [(lp (t:=⟨#[49]⟩) hwr (by omega) (by decide)).1] at h; exact h) ?_
  refine Rn [0,20,20,1,1,9,0,1,2,6] ?_
  exact aw rfl rfl (fun w' hm=>⟨_,rfl,hm.b,(lp (t:=⟨#[49]⟩) hwr (by omega) (by decide)).2.1⟩)
 refine Rn [23,0] ?_
 refine Xc (v:=Value.tuple #[.string ⟨(fX (bH xs)).toArray⟩,Vi 0]) rfl Tryz.func25 rfl (fun w1 hw1=>by
  have h:=jV (l:=bH xs) w1 (bY hR87 hw1 Zh hm87) (by have h2:(fX (bH xs)).toArray.size≤150000000:=(mQ hwr (by omega)).2.1; rw [List.size_toArray] at h2; omega)
  rw [(mQ hwr (by omega)).1] at h; exact h) ?_
 refine Rn [0,20,20,1,1,9,0,1,2,6] ?_
 exact aw rfl rfl (fun w' hm=>⟨_,rfl,hm.b,(mQ hwr (by omega)).2.1⟩)
open Go.RowKit Go.PK
theorem l8 {w:World} {l1 L:List (Nat×Obj)} {ro:List av} {m tol:Int} {y:Jx} {s1 s2:SG} {z:Jq} (hm:Mem w (l1++y.own tol s2 z L) ro) (hg:JG m y tol s1 s2 z) (k0 a b c:Int) (ha:aj a) (hb:aj b) (hc:aj c):Calls Tryz.prog 33 #[Pt y.pR,.agg [Vi k0,Vi a,Vi b,Vi c].toArray] w fun e w'=>∃ t:ByteArray,e=.returned (.string t)∧Later w w'∧t.size≤150000000:=r_Reply k0 a b c ha hb hc w (aa (vs:=[Pt y.pG,Vi y.tr,au z.RE s2.L.length]) (off:=2) (.head _) rfl w (d4 hm)) ((d4 hm).rowIn (fun p hp=>.tail _ (List.mem_append_left _ hp))) hg.E hg.d2.sm
theorem nI {w:World} {l1 L:List (Nat×Obj)} {ro:List av} {m tol:Int} {y:Jx} {s1 s2:SG} {z:Jq} (hm:Mem w (l1++y.own tol s2 z L) ro) (hg:JG m y tol s1 s2 z) (k0 a b c:Int) (ha:aj a) (hb:aj b) (hc:aj c):Calls Tryz.prog 34 #[Pt y.pR,.agg [Vi k0,Vi a,Vi b,Vi c].toArray] w fun e w'=>∃ t:ByteArray,e=.returned (.string t)∧Later w w'∧t.size≤150000000:=r_Bill k0 a b c ha hb hc w (aa (vs:=[Pt y.pG,Vi y.tr,au z.RE s2.L.length]) (off:=2) (.head _) rfl w (d4 hm)) ((d4 hm).rowIn (fun p hp=>.tail _ (List.mem_append_left _ hp))) hg.E hg.d2.sm hg.d2.inv.ok.L
theorem tj (a b c:Int):rh (dt a b c):=by
 have h1:=cN a (m:=6) (by decide); have h2:=cN b (m:=4) (by decide); have h3:=cN a (m:=3) (by decide); have h4:=cN c (m:=6) (by decide); have h5:=cN b (m:=13) (by decide)
 unfold rh dt; dsimp only; omega
theorem d_do {w:World} {l1 L:List (Nat×Obj)} {ro:List av} {m tol:Int} {y:Jx} {s:SG} {z:Jq} (hm:Mem w (l1++y.own tol s z L) ro) (hg:JG m y tol s s z) {ws:World} (hws:(ws,fun _=>True)∈ro) (hL:LD ws) (k0 a b c:Int) (hk0:aj k0) (ha:aj a) (hb:aj b) (hc:aj c) :
  Calls Tryz.prog 29 #[.agg [Pt y.x.pO,Pt y.x.pF,Pt y.pR].toArray,.agg [Vi k0,Vi a,Vi b,Vi c].toArray] w fun e w'=>∃ u:Int×SG×Jq,e=.returned (.tuple #[Vi u.1,Vi u.1])∧(u.1≠0→u.2.1=s)∧JG m y tol u.2.1 u.2.1 u.2.2∧Mem w' (l1++y.own tol u.2.1 u.2.2 L) ro:=by
 have hm6:=cN a (m:=6) (by decide)
 have hm4:=cN c (m:=4) (by decide)
 have hid:aj (1+a%6):=by unfold aj; omega
 have hnn:aj (c%4):=by unfold aj; omega
 refine ay hm Tryz.func29 rfl Tryz.ntmps29 rfl ?_
 refine Rn [3,36,36,1,1,2,5,3,4,7] fun p2 p3=>?_
 refine Xc (v:=Vi (k0%9)) rfl Tryz.func43 rfl (fun w1 hw1=>ix k0 9 w1 hk0 (by decide)) ?_
 have hm13:=cN k0 (m:=9) (by decide)
 refine Rn [2,14,5,3,38,1,2,12] fun b15 hb15=>Aw (fun hc14=>?_) fun hc14=>?_
 ·refine Rn [16,10] (Aw (fun hc14=>?_) fun hc14=>?_)
  ·simp only [hb15,Qz,ne_eq] at hc14
   refine Zs ?_
   refine cL ([(Bk p3 [Vi k0,Vi a,Vi b,Vi c] 42),(Bk p2 [Pt y.x.pO,Pt y.x.pF,Pt y.pR] 64)]) 12 (.flt 0 (.flt 1 (.flt 2 (.flt 3 (.flt 5 (.flt 6 (.flt 7 (.gr 4 (.flt 8 (.gr 9 (.flt 10 (.flt 11 .done)) .nil)) .nil)))))))) (.cons_cons _ (.cons_cons _ (List.nil_sublist _))) Zk Zk ?_
   refine Rn [41,49,84] ?_
   refine lI rfl rfl Tryz.func19 Zk rfl (fun w1 hw1=>sP k0 a b c w1 ha hb hc) ?_
   refine Rn [41,49,84,42] ?_
   refine aI (τ:=Jq) (v:=Vi (aD s (dt a b c)).1) (fun z=>JG m y tol (aD s (dt a b c)).2 s z) (fun z=>(Bk p3 [Vi k0,Vi a,Vi b,Vi c] 42)::(Bk p2 [Pt y.x.pO,Pt y.x.pF,Pt y.pR] 64)::(l1++y.own tol s z L)) rfl rfl Tryz.func12 Zk rfl (fun w1 hw1=>uX (l1:=(Bk p3 [Vi k0,Vi a,Vi b,Vi c] 42)::(Bk p2 [Pt y.x.pO,Pt y.x.pF,Pt y.pR] 64)::l1) hw1 hg hws hL (dt a b c) (nC a b c) (tj a b c)) fun z21 hg21=>?_
   refine Rn [13,66] ?_
   refine lI rfl rfl Tryz.func19 Zk rfl (fun w1 hw1=>sP k0 a b c w1 ha hb hc) ?_
   refine Rn [42] ?_
   refine aI (τ:=Jq) (v:=Vi (aD s (dt a b c)).1) (fun z=>JG m y tol (aD s (dt a b c)).2 (aD s (dt a b c)).2 z) (fun z=>(Bk p3 [Vi k0,Vi a,Vi b,Vi c] 42)::(Bk p2 [Pt y.x.pO,Pt y.x.pF,Pt y.pR] 64)::(l1++y.own tol (aD s (dt a b c)).2 z L)) rfl rfl Tryz.func78 Zk rfl (fun w1 hw1=>uY (l1:=(Bk p3 [Vi k0,Vi a,Vi b,Vi c] 42)::(Bk p2 [Pt y.x.pO,Pt y.x.pF,Pt y.pR] 64)::l1) hw1 hg21 (dt a b c) (nC a b c) (tj a b c)) fun z26 hg26=>?_
   refine Rn [13,66,55,55,56,2,6,15,8] ?_
   exact cR rfl rfl rfl (fun w' hm'=>⟨((aD s (dt a b c)).1,(aD s (dt a b c)).2,z26),rfl,ri,hg26,hm'.less (Ls.trans Ls) (fun _ h=>h)⟩)
  simp only [hb15,Qz,ne_eq] at hc14
  omega
 refine Rn [18,38,1,2,12] fun b16 hb16=>Aw (fun hc14=>?_) fun hc14=>?_
 ·refine Zs ?_
  refine cL ([(Bk p3 [Vi k0,Vi a,Vi b,Vi c] 42),(Bk p2 [Pt y.x.pO,Pt y.x.pF,Pt y.pR] 64)]) 12 (.flt 0 (.flt 1 (.flt 2 (.flt 3 (.flt 5 (.flt 6 (.flt 7 (.gr 4 (.flt 8 (.gr 9 (.flt 10 (.flt 11 .done)) .nil)) .nil)))))))) (.cons_cons _ (.cons_cons _ (List.nil_sublist _))) Zk Zk ?_
  refine Rn [41,49,84] ?_
  refine lI rfl rfl Tryz.func19 Zk rfl (fun w1 hw1=>sP k0 a b c w1 ha hb hc) ?_
  refine Rn [41,49,84,42] ?_
  refine aI (τ:=Jq) (v:=Vi (aD s (dt a b c)).1) (fun z=>JG m y tol (aD s (dt a b c)).2 s z) (fun z=>(Bk p3 [Vi k0,Vi a,Vi b,Vi c] 42)::(Bk p2 [Pt y.x.pO,Pt y.x.pF,Pt y.pR] 64)::(l1++y.own tol s z L)) rfl rfl Tryz.func12 Zk rfl (fun w1 hw1=>uX (l1:=(Bk p3 [Vi k0,Vi a,Vi b,Vi c] 42)::(Bk p2 [Pt y.x.pO,Pt y.x.pF,Pt y.pR] 64)::l1) hw1 hg hws hL (dt a b c) (nC a b c) (tj a b c)) fun z21 hg21=>?_
  refine Rn [13,66] ?_
  refine lI rfl rfl Tryz.func19 Zk rfl (fun w1 hw1=>sP k0 a b c w1 ha hb hc) ?_
  refine Rn [42] ?_
  refine aI (τ:=Jq) (v:=Vi (aD s (dt a b c)).1) (fun z=>JG m y tol (aD s (dt a b c)).2 (aD s (dt a b c)).2 z) (fun z=>(Bk p3 [Vi k0,Vi a,Vi b,Vi c] 42)::(Bk p2 [Pt y.x.pO,Pt y.x.pF,Pt y.pR] 64)::(l1++y.own tol (aD s (dt a b c)).2 z L)) rfl rfl Tryz.func78 Zk rfl (fun w1 hw1=>uY (l1:=(Bk p3 [Vi k0,Vi a,Vi b,Vi c] 42)::(Bk p2 [Pt y.x.pO,Pt y.x.pF,Pt y.pR] 64)::l1) hw1 hg21 (dt a b c) (nC a b c) (tj a b c)) fun z26 hg26=>?_
  refine Rn [13,66,55,55,56,2,6,15,8] ?_
  exact cR rfl rfl rfl (fun w' hm'=>⟨((aD s (dt a b c)).1,(aD s (dt a b c)).2,z26),rfl,ri,hg26,hm'.less (Ls.trans Ls) (fun _ h=>h)⟩)
 refine Rn [5,3,38,1,2,12] fun b28 hb28=>Aw (fun hc27=>?_) fun hc27=>?_
 ·refine Rn [16,10] (Aw (fun hc27=>?_) fun hc27=>?_)
  ·simp only [hb28,Qz,ne_eq] at hc27
   refine Rn [3,4,7,39] ?_
   refine Xd (R:=fun v wa wb=>∃ t:ByteArray,v=.string t∧t.size≤200000000) rfl Tryz.func33 rfl (fun w1 hw1=>(l8 (l1:=(Bk p3 [Vi k0,Vi a,Vi b,Vi c] 42)::(Bk p2 [Pt y.x.pO,Pt y.x.pF,Pt y.pR] 64)::l1) hw1 hg k0 a b c ha hb hc).mono fun e w2 ⟨t,h1,h2,h3⟩=>⟨_,h1,h2,t,rfl,Nat.le_trans h3 (by decide)⟩) fun v33 wa33 wb33 hm33 hl33 hR33=>?_
   obtain ⟨t,rfl,ht⟩:=hR33
   refine Rn [1,2,5] ?_
   refine dY (own':=(Bk p3 [Vi k0,Vi a,Vi b,Vi c] 42)::(Bk p2 [Pt y.x.pO,Pt y.x.pF,Pt y.pR] 64)::(l1++y.own tol s z L)) (ro':=ro) (fun w1 h=>h.less (.refl _) (fun _ h=>.tail _ h)) ?_
   refine cL ([(Bk p3 [Vi k0,Vi a,Vi b,Vi c] 42),(Bk p2 [Pt y.x.pO,Pt y.x.pF,Pt y.pR] 64)]) 10 (.flt 0 (.flt 1 (.flt 2 (.flt 4 (.flt 5 (.flt 6 (.gr 3 (.gr 7 (.flt 8 (.flt 9 .done)) .nil) .nil))))))) (.cons_cons _ (.cons_cons _ (List.nil_sublist _))) Zk Zk ?_
   refine Rn [41,49,44,41,49,44,42] ?_
   refine aI (τ:=Jq) (v:=Vi (ah s (bn t).1 (bn t).2).1) (fun z=>JG m y tol (ah s (bn t).1 (bn t).2).2 s z) (fun z=>(Bk p3 [Vi k0,Vi a,Vi b,Vi c] 42)::(Bk p2 [Pt y.x.pO,Pt y.x.pF,Pt y.pR] 64)::(l1++y.own tol s z L)) rfl rfl Tryz.func13 Zk rfl (fun w1 hw1=>mM (l1:=(Bk p3 [Vi k0,Vi a,Vi b,Vi c] 42)::(Bk p2 [Pt y.x.pO,Pt y.x.pF,Pt y.pR] 64)::l1) hw1 hg hws hL t ht) fun z37 hg37=>?_
   refine Rn [13,66,42] ?_
   refine aI (τ:=Jq) (v:=Vi (ah s (bn t).1 (bn t).2).1) (fun z=>JG m y tol (ah s (bn t).1 (bn t).2).2 (ah s (bn t).1 (bn t).2).2 z) (fun z=>(Bk p3 [Vi k0,Vi a,Vi b,Vi c] 42)::(Bk p2 [Pt y.x.pO,Pt y.x.pF,Pt y.pR] 64)::(l1++y.own tol (ah s (bn t).1 (bn t).2).2 z L)) rfl rfl Tryz.func35 Zk rfl (fun w1 hw1=>mN (l1:=(Bk p3 [Vi k0,Vi a,Vi b,Vi c] 42)::(Bk p2 [Pt y.x.pO,Pt y.x.pF,Pt y.pR] 64)::l1) hw1 hg37 t ht) fun z41 hg41=>?_
   refine Rn [13,66,55,55,56,2,6,15,8] ?_
   exact cR rfl rfl rfl (fun w' hm'=>⟨((ah s (bn t).1 (bn t).2).1,(ah s (bn t).1 (bn t).2).2,z41),rfl,pq,hg41,hm'.less (Ls.trans Ls) (fun _ h=>h)⟩)
  simp only [hb28,Qz,ne_eq] at hc27
  omega
 refine Rn [18,38,1,2,12] fun b29 hb29=>Aw (fun hc27=>?_) fun hc27=>?_
 ·refine Rn [3,4,7,39] ?_
  refine Xd (R:=fun v wa wb=>∃ t:ByteArray,v=.string t∧t.size≤200000000) rfl Tryz.func33 rfl (fun w1 hw1=>(l8 (l1:=(Bk p3 [Vi k0,Vi a,Vi b,Vi c] 42)::(Bk p2 [Pt y.x.pO,Pt y.x.pF,Pt y.pR] 64)::l1) hw1 hg k0 a b c ha hb hc).mono fun e w2 ⟨t,h1,h2,h3⟩=>⟨_,h1,h2,t,rfl,Nat.le_trans h3 (by decide)⟩) fun v33 wa33 wb33 hm33 hl33 hR33=>?_
  obtain ⟨t,rfl,ht⟩:=hR33
  refine Rn [1,2,5] ?_
  refine dY (own':=(Bk p3 [Vi k0,Vi a,Vi b,Vi c] 42)::(Bk p2 [Pt y.x.pO,Pt y.x.pF,Pt y.pR] 64)::(l1++y.own tol s z L)) (ro':=ro) (fun w1 h=>h.less (.refl _) (fun _ h=>.tail _ h)) ?_
  refine cL ([(Bk p3 [Vi k0,Vi a,Vi b,Vi c] 42),(Bk p2 [Pt y.x.pO,Pt y.x.pF,Pt y.pR] 64)]) 10 (.flt 0 (.flt 1 (.flt 2 (.flt 4 (.flt 5 (.flt 6 (.gr 3 (.gr 7 (.flt 8 (.flt 9 .done)) .nil) .nil))))))) (.cons_cons _ (.cons_cons _ (List.nil_sublist _))) Zk Zk ?_
  refine Rn [41,49,44,41,49,44,42] ?_
  refine aI (τ:=Jq) (v:=Vi (ah s (bn t).1 (bn t).2).1) (fun z=>JG m y tol (ah s (bn t).1 (bn t).2).2 s z) (fun z=>(Bk p3 [Vi k0,Vi a,Vi b,Vi c] 42)::(Bk p2 [Pt y.x.pO,Pt y.x.pF,Pt y.pR] 64)::(l1++y.own tol s z L)) rfl rfl Tryz.func13 Zk rfl (fun w1 hw1=>mM (l1:=(Bk p3 [Vi k0,Vi a,Vi b,Vi c] 42)::(Bk p2 [Pt y.x.pO,Pt y.x.pF,Pt y.pR] 64)::l1) hw1 hg hws hL t ht) fun z37 hg37=>?_
  refine Rn [13,66,42] ?_
  refine aI (τ:=Jq) (v:=Vi (ah s (bn t).1 (bn t).2).1) (fun z=>JG m y tol (ah s (bn t).1 (bn t).2).2 (ah s (bn t).1 (bn t).2).2 z) (fun z=>(Bk p3 [Vi k0,Vi a,Vi b,Vi c] 42)::(Bk p2 [Pt y.x.pO,Pt y.x.pF,Pt y.pR] 64)::(l1++y.own tol (ah s (bn t).1 (bn t).2).2 z L)) rfl rfl Tryz.func35 Zk rfl (fun w1 hw1=>mN (l1:=(Bk p3 [Vi k0,Vi a,Vi b,Vi c] 42)::(Bk p2 [Pt y.x.pO,Pt y.x.pF,Pt y.pR] 64)::l1) hw1 hg37 t ht) fun z41 hg41=>?_
  refine Rn [13,66,55,55,56,2,6,15,8] ?_
  exact cR rfl rfl rfl (fun w' hm'=>⟨((ah s (bn t).1 (bn t).2).1,(ah s (bn t).1 (bn t).2).2,z41),rfl,pq,hg41,hm'.less (Ls.trans Ls) (fun _ h=>h)⟩)
 refine Rn [5,3,38,1,2,12] fun b43 hb43=>Aw (fun hc42=>?_) fun hc42=>?_
 ·refine Rn [16,10] (Aw (fun hc42=>?_) fun hc42=>?_)
  ·simp only [hb43,Qz,ne_eq] at hc42
   refine Rn [3,4,7] ?_
   refine Xc (v:=Vi (a%6)) rfl Tryz.func43 rfl (fun w1 hw1=>ix a 6 w1 ha (by decide)) ?_
   have hm47:=cN a (m:=6) (by decide)
   refine Rn [26,1,9,4,7] ?_
   refine Xc (v:=Vi (c%4)) rfl Tryz.func43 rfl (fun w1 hw1=>ix c 4 w1 hc (by decide)) ?_
   have hm51:=cN c (m:=4) (by decide)
   refine Rn [1,2,5] ?_
   refine cL ([(Bk p3 [Vi k0,Vi a,Vi b,Vi c] 42),(Bk p2 [Pt y.x.pO,Pt y.x.pF,Pt y.pR] 64)]) 12 (.flt 0 (.flt 1 (.flt 2 (.flt 3 (.flt 5 (.flt 6 (.flt 7 (.flt 8 (.gr 4 (.gr 9 (.flt 10 (.flt 11 .done)) .nil) .nil))))))))) (.cons_cons _ (.cons_cons _ (List.nil_sublist _))) Zk Zk ?_
   refine Rn [41,49,44,44,41,49,44,44,42] ?_
   refine aI (τ:=Jq) (v:=Vi (ar s (1+a%6) (c%4)).1) (fun z=>JG m y tol (ar s (1+a%6) (c%4)).2 s z) (fun z=>(Bk p3 [Vi k0,Vi a,Vi b,Vi c] 42)::(Bk p2 [Pt y.x.pO,Pt y.x.pF,Pt y.pR] 64)::(l1++y.own tol s z L)) rfl rfl Tryz.func14 Zk rfl (fun w1 hw1=>pA (l1:=(Bk p3 [Vi k0,Vi a,Vi b,Vi c] 42)::(Bk p2 [Pt y.x.pO,Pt y.x.pF,Pt y.pR] 64)::l1) hw1 hg (id:=1+a%6) hid (c%4) hnn) fun z56 hg56=>?_
   refine Rn [13,66,42] ?_
   refine aI (τ:=Jq) (v:=Vi (ar s (1+a%6) (c%4)).1) (fun z=>JG m y tol (ar s (1+a%6) (c%4)).2 (ar s (1+a%6) (c%4)).2 z) (fun z=>(Bk p3 [Vi k0,Vi a,Vi b,Vi c] 42)::(Bk p2 [Pt y.x.pO,Pt y.x.pF,Pt y.pR] 64)::(l1++y.own tol (ar s (1+a%6) (c%4)).2 z L)) rfl rfl Tryz.func79 Zk rfl (fun w1 hw1=>pB (l1:=(Bk p3 [Vi k0,Vi a,Vi b,Vi c] 42)::(Bk p2 [Pt y.x.pO,Pt y.x.pF,Pt y.pR] 64)::l1) hw1 hg56 (id:=1+a%6) hid (c%4) hnn) fun z61 hg61=>?_
   refine Rn [13,66,55,55,56,2,6,15,8] ?_
   exact cR rfl rfl rfl (fun w' hm'=>⟨((ar s (1+a%6) (c%4)).1,(ar s (1+a%6) (c%4)).2,z61),rfl,nf,hg61,hm'.less (Ls.trans Ls) (fun _ h=>h)⟩)
  simp only [hb43,Qz,ne_eq] at hc42
  omega
 refine Rn [18,38,1,2,12] fun b44 hb44=>Aw (fun hc42=>?_) fun hc42=>?_
 ·refine Rn [3,4,7] ?_
  refine Xc (v:=Vi (a%6)) rfl Tryz.func43 rfl (fun w1 hw1=>ix a 6 w1 ha (by decide)) ?_
  have hm47:=cN a (m:=6) (by decide)
  refine Rn [26,1,9,4,7] ?_
  refine Xc (v:=Vi (c%4)) rfl Tryz.func43 rfl (fun w1 hw1=>ix c 4 w1 hc (by decide)) ?_
  have hm51:=cN c (m:=4) (by decide)
  refine Rn [1,2,5] ?_
  refine cL ([(Bk p3 [Vi k0,Vi a,Vi b,Vi c] 42),(Bk p2 [Pt y.x.pO,Pt y.x.pF,Pt y.pR] 64)]) 12 (.flt 0 (.flt 1 (.flt 2 (.flt 3 (.flt 5 (.flt 6 (.flt 7 (.flt 8 (.gr 4 (.gr 9 (.flt 10 (.flt 11 .done)) .nil) .nil))))))))) (.cons_cons _ (.cons_cons _ (List.nil_sublist _))) Zk Zk ?_
  refine Rn [41,49,44,44,41,49,44,44,42] ?_
  refine aI (τ:=Jq) (v:=Vi (ar s (1+a%6) (c%4)).1) (fun z=>JG m y tol (ar s (1+a%6) (c%4)).2 s z) (fun z=>(Bk p3 [Vi k0,Vi a,Vi b,Vi c] 42)::(Bk p2 [Pt y.x.pO,Pt y.x.pF,Pt y.pR] 64)::(l1++y.own tol s z L)) rfl rfl Tryz.func14 Zk rfl (fun w1 hw1=>pA (l1:=(Bk p3 [Vi k0,Vi a,Vi b,Vi c] 42)::(Bk p2 [Pt y.x.pO,Pt y.x.pF,Pt y.pR] 64)::l1) hw1 hg (id:=1+a%6) hid (c%4) hnn) fun z56 hg56=>?_
  refine Rn [13,66,42] ?_
  refine aI (τ:=Jq) (v:=Vi (ar s (1+a%6) (c%4)).1) (fun z=>JG m y tol (ar s (1+a%6) (c%4)).2 (ar s (1+a%6) (c%4)).2 z) (fun z=>(Bk p3 [Vi k0,Vi a,Vi b,Vi c] 42)::(Bk p2 [Pt y.x.pO,Pt y.x.pF,Pt y.pR] 64)::(l1++y.own tol (ar s (1+a%6) (c%4)).2 z L)) rfl rfl Tryz.func79 Zk rfl (fun w1 hw1=>pB (l1:=(Bk p3 [Vi k0,Vi a,Vi b,Vi c] 42)::(Bk p2 [Pt y.x.pO,Pt y.x.pF,Pt y.pR] 64)::l1) hw1 hg56 (id:=1+a%6) hid (c%4) hnn) fun z61 hg61=>?_
  refine Rn [13,66,55,55,56,2,6,15,8] ?_
  exact cR rfl rfl rfl (fun w' hm'=>⟨((ar s (1+a%6) (c%4)).1,(ar s (1+a%6) (c%4)).2,z61),rfl,nf,hg61,hm'.less (Ls.trans Ls) (fun _ h=>h)⟩)
 refine Rn [5,3,38,1,2,12] fun b63 hb63=>Aw (fun hc62=>?_) fun hc62=>?_
 ·refine Rn [16,10] (Aw (fun hc62=>?_) fun hc62=>?_)
  ·simp only [hb63,Qz,ne_eq] at hc62
   refine Rn [3,4,7,39] ?_
   refine Xd (R:=fun v wa wb=>∃ t:ByteArray,v=.string t∧t.size≤200000000) rfl Tryz.func34 rfl (fun w1 hw1=>(nI (l1:=(Bk p3 [Vi k0,Vi a,Vi b,Vi c] 42)::(Bk p2 [Pt y.x.pO,Pt y.x.pF,Pt y.pR] 64)::l1) hw1 hg k0 a b c ha hb hc).mono fun e w2 ⟨t,h1,h2,h3⟩=>⟨_,h1,h2,t,rfl,Nat.le_trans h3 (by decide)⟩) fun v68 wa68 wb68 hm68 hl68 hR68=>?_
   obtain ⟨t,rfl,ht⟩:=hR68
   refine Rn [1,2,5] ?_
   refine dY (own':=(Bk p3 [Vi k0,Vi a,Vi b,Vi c] 42)::(Bk p2 [Pt y.x.pO,Pt y.x.pF,Pt y.pR] 64)::(l1++y.own tol s z L)) (ro':=ro) (fun w1 h=>h.less (.refl _) (fun _ h=>.tail _ h)) ?_
   refine cL ([(Bk p3 [Vi k0,Vi a,Vi b,Vi c] 42),(Bk p2 [Pt y.x.pO,Pt y.x.pF,Pt y.pR] 64)]) 10 (.flt 0 (.flt 1 (.flt 2 (.flt 4 (.flt 5 (.flt 6 (.gr 3 (.gr 7 (.flt 8 (.flt 9 .done)) .nil) .nil))))))) (.cons_cons _ (.cons_cons _ (List.nil_sublist _))) Zk Zk ?_
   refine Rn [41,49,44,41,49,44,42] ?_
   refine aI (τ:=Jq) (v:=Vi (aF s (aM t).1 (aM t).2).1) (fun z=>JG m y tol (aF s (aM t).1 (aM t).2).2 s z) (fun z=>(Bk p3 [Vi k0,Vi a,Vi b,Vi c] 42)::(Bk p2 [Pt y.x.pO,Pt y.x.pF,Pt y.pR] 64)::(l1++y.own tol s z L)) rfl rfl Tryz.func15 Zk rfl (fun w1 hw1=>lk (l1:=(Bk p3 [Vi k0,Vi a,Vi b,Vi c] 42)::(Bk p2 [Pt y.x.pO,Pt y.x.pF,Pt y.pR] 64)::l1) hw1 hg hws hL t ht) fun z72 hg72=>?_
   refine Rn [13,66,42] ?_
   refine aI (τ:=Jq) (v:=Vi (aF s (aM t).1 (aM t).2).1) (fun z=>JG m y tol (aF s (aM t).1 (aM t).2).2 (aF s (aM t).1 (aM t).2).2 z) (fun z=>(Bk p3 [Vi k0,Vi a,Vi b,Vi c] 42)::(Bk p2 [Pt y.x.pO,Pt y.x.pF,Pt y.pR] 64)::(l1++y.own tol (aF s (aM t).1 (aM t).2).2 z L)) rfl rfl Tryz.func36 Zk rfl (fun w1 hw1=>ll (l1:=(Bk p3 [Vi k0,Vi a,Vi b,Vi c] 42)::(Bk p2 [Pt y.x.pO,Pt y.x.pF,Pt y.pR] 64)::l1) hw1 hg72 t ht) fun z76 hg76=>?_
   refine Rn [13,66,55,55,56,2,6,15,8] ?_
   exact cR rfl rfl rfl (fun w' hm'=>⟨((aF s (aM t).1 (aM t).2).1,(aF s (aM t).1 (aM t).2).2,z76),rfl,ng,hg76,hm'.less (Ls.trans Ls) (fun _ h=>h)⟩)
  simp only [hb63,Qz,ne_eq] at hc62
  omega
 refine Rn [18,38,1,2,12] fun b64 hb64=>Aw (fun hc62=>?_) fun hc62=>?_
 ·refine Rn [3,4,7,39] ?_
  refine Xd (R:=fun v wa wb=>∃ t:ByteArray,v=.string t∧t.size≤200000000) rfl Tryz.func34 rfl (fun w1 hw1=>(nI (l1:=(Bk p3 [Vi k0,Vi a,Vi b,Vi c] 42)::(Bk p2 [Pt y.x.pO,Pt y.x.pF,Pt y.pR] 64)::l1) hw1 hg k0 a b c ha hb hc).mono fun e w2 ⟨t,h1,h2,h3⟩=>⟨_,h1,h2,t,rfl,Nat.le_trans h3 (by decide)⟩) fun v68 wa68 wb68 hm68 hl68 hR68=>?_
  obtain ⟨t,rfl,ht⟩:=hR68
  refine Rn [1,2,5] ?_
  refine dY (own':=(Bk p3 [Vi k0,Vi a,Vi b,Vi c] 42)::(Bk p2 [Pt y.x.pO,Pt y.x.pF,Pt y.pR] 64)::(l1++y.own tol s z L)) (ro':=ro) (fun w1 h=>h.less (.refl _) (fun _ h=>.tail _ h)) ?_
  refine cL ([(Bk p3 [Vi k0,Vi a,Vi b,Vi c] 42),(Bk p2 [Pt y.x.pO,Pt y.x.pF,Pt y.pR] 64)]) 10 (.flt 0 (.flt 1 (.flt 2 (.flt 4 (.flt 5 (.flt 6 (.gr 3 (.gr 7 (.flt 8 (.flt 9 .done)) .nil) .nil))))))) (.cons_cons _ (.cons_cons _ (List.nil_sublist _))) Zk Zk ?_
  refine Rn [41,49,44,41,49,44,42] ?_
  refine aI (τ:=Jq) (v:=Vi (aF s (aM t).1 (aM t).2).1) (fun z=>JG m y tol (aF s (aM t).1 (aM t).2).2 s z) (fun z=>(Bk p3 [Vi k0,Vi a,Vi b,Vi c] 42)::(Bk p2 [Pt y.x.pO,Pt y.x.pF,Pt y.pR] 64)::(l1++y.own tol s z L)) rfl rfl Tryz.func15 Zk rfl (fun w1 hw1=>lk (l1:=(Bk p3 [Vi k0,Vi a,Vi b,Vi c] 42)::(Bk p2 [Pt y.x.pO,Pt y.x.pF,Pt y.pR] 64)::l1) hw1 hg hws hL t ht) fun z72 hg72=>?_
  refine Rn [13,66,42] ?_
  refine aI (τ:=Jq) (v:=Vi (aF s (aM t).1 (aM t).2).1) (fun z=>JG m y tol (aF s (aM t).1 (aM t).2).2 (aF s (aM t).1 (aM t).2).2 z) (fun z=>(Bk p3 [Vi k0,Vi a,Vi b,Vi c] 42)::(Bk p2 [Pt y.x.pO,Pt y.x.pF,Pt y.pR] 64)::(l1++y.own tol (aF s (aM t).1 (aM t).2).2 z L)) rfl rfl Tryz.func36 Zk rfl (fun w1 hw1=>ll (l1:=(Bk p3 [Vi k0,Vi a,Vi b,Vi c] 42)::(Bk p2 [Pt y.x.pO,Pt y.x.pF,Pt y.pR] 64)::l1) hw1 hg72 t ht) fun z76 hg76=>?_
  refine Rn [13,66,55,55,56,2,6,15,8] ?_
  exact cR rfl rfl rfl (fun w' hm'=>⟨((aF s (aM t).1 (aM t).2).1,(aF s (aM t).1 (aM t).2).2,z76),rfl,ng,hg76,hm'.less (Ls.trans Ls) (fun _ h=>h)⟩)
 refine Rn [45,27,17,3,4,7] ?_
 refine Xc (v:=Vi (a%6)) rfl Tryz.func43 rfl (fun w1 hw1=>ix a 6 w1 ha (by decide)) ?_
 have hm79:=cN a (m:=6) (by decide)
 refine Rn [26,1,2,5] ?_
 refine cL ([(Bk p3 [Vi k0,Vi a,Vi b,Vi c] 42),(Bk p2 [Pt y.x.pO,Pt y.x.pF,Pt y.pR] 64)]) 10 (.flt 0 (.flt 1 (.flt 2 (.flt 4 (.flt 5 (.flt 6 (.gr 3 (.gr 7 (.flt 8 (.flt 9 .done)) .nil) .nil))))))) (.cons_cons _ (.cons_cons _ (List.nil_sublist _))) Zk Zk ?_
 refine Rn [41,49,44,41,49,44,42] ?_
 refine aI (τ:=Jq) (v:=Vi (aE s (1+a%6)).1) (fun z=>JG m y tol (aE s (1+a%6)).2 s z) (fun z=>(Bk p3 [Vi k0,Vi a,Vi b,Vi c] 42)::(Bk p2 [Pt y.x.pO,Pt y.x.pF,Pt y.pR] 64)::(l1++y.own tol s z L)) rfl rfl Tryz.func16 Zk rfl (fun w1 hw1=>zr (l1:=(Bk p3 [Vi k0,Vi a,Vi b,Vi c] 42)::(Bk p2 [Pt y.x.pO,Pt y.x.pF,Pt y.pR] 64)::l1) hw1 hg (id:=1+a%6) hid) fun z84 hg84=>?_
 refine Rn [13,66,42] ?_
 refine aI (τ:=Jq) (v:=Vi (aE s (1+a%6)).1) (fun z=>JG m y tol (aE s (1+a%6)).2 (aE s (1+a%6)).2 z) (fun z=>(Bk p3 [Vi k0,Vi a,Vi b,Vi c] 42)::(Bk p2 [Pt y.x.pO,Pt y.x.pF,Pt y.pR] 64)::(l1++y.own tol (aE s (1+a%6)).2 z L)) rfl rfl Tryz.func80 Zk rfl (fun w1 hw1=>zt (l1:=(Bk p3 [Vi k0,Vi a,Vi b,Vi c] 42)::(Bk p2 [Pt y.x.pO,Pt y.x.pF,Pt y.pR] 64)::l1) hw1 hg84 (id:=1+a%6) hid) fun z88 hg88=>?_
 refine Rn [13,66,55,55,56,2,6] ?_
 exact cR rfl rfl rfl (fun w' hm'=>⟨((aE s (1+a%6)).1,(aE s (1+a%6)).2,z88),rfl,wm,hg88,hm'.less (Ls.trans Ls) (fun _ h=>h)⟩)
open Go.RowKit Go.PK
theorem tn {w:World} {l1 L:List (Nat×Obj)} {ro:List av} {m tol:Int} {y:Jx} {s:SG} {z:Jq} (hm:Mem w (l1++y.own tol s z L) ro) (hg:JG m y tol s s z) :
  Calls Tryz.prog 37 #[.agg [Pt y.x.pO,Pt y.x.pF,Pt y.pR].toArray] w fun e w'=>e=.returned (.bool (true))∧Later w w':=by
 refine enter Tryz.func37 rfl Tryz.ntmps37 rfl ?_
 refine Zs ?_
 obtain ⟨E1,hE1⟩:∃ E,(⟨(cF (jG s.L)).toArray⟩:ByteArray)=E:=⟨_,rfl⟩
 obtain ⟨E2,hE2⟩:∃ E,(⟨(cF (er s.fs)).toArray⟩:ByteArray)=E:=⟨_,rfl⟩
 refine Rn [18,36,1,2,5] fun p1=>?_
 refine bc 20 ?_
 refine Rn [4,7] ?_
 refine Xc (v:=Value.string E1) rfl Tryz.func18 rfl (fun w1 hw1=>by
  have h:=sZ (l1:=l1) (L:=L) (hm.later hw1.b) hg
  rw [hE1] at h; exact h) ?_
 refine Rn [4,7] ?_
 refine Xc (v:=Value.string E1) rfl Tryz.func41 rfl (fun w1 hw1=>by
  have h:=jr_EncO (l1:=l1) (L:=L) (hm.later hw1.b) hg
  rw [hE1] at h; exact h) ?_
 refine Rn [99] fun b9 hb9=>?_
 obtain rfl:b9=true:=hb9.trans (decide_eq_true rfl)
 refine Rn [0,47,50] ?_
 refine dc (v:=Value.string E2) rfl rfl rfl rfl rfl Tryz.func24 Zk rfl (fun w1 hw1=>by
  have h:=ta (l1:=l1) (L:=L) (hm.later hw1.b) hg
  rw [hE2] at h; exact h) ?_
 refine Rn [47,50,82,47] ?_
 refine cz rfl rfl rfl rfl rfl (aW u46 rfl rfl (an (.head _) trivial (aa (vs:=[Pt y.pG,Vi y.tr,au z.RE s.L.length]) (off:=0) (v:=Pt y.pG) ((List.mem_append_right _ (List.mem_append_right _ (List.mem_append_right _ (.head _))))) rfl w hm))) ?_
 refine dc (v:=Value.string E2) rfl rfl rfl rfl rfl Tryz.func76 Zk rfl (fun w1 hw1=>by
  have h:=jr_EncF (l1:=l1) (L:=L) (hm.later hw1.b) hg
  rw [hE2] at h; exact h) ?_
 refine Rn [88] fun b20 hb20=>?_
 obtain rfl:b20=true:=hb20.trans (decide_eq_true rfl)
 refine Rn [30,1,2,6] fun b21 hb21=>?_
 exact aw rfl rfl (fun w' hm'=>⟨by rw [hb21]; rfl,hm'.b⟩)
theorem c_SameZ {u v:Value} {D1 D2:Nat→Prop} {xs ys:List Int} (w:World) (hx:ab i8 D1 w u xs) (hy:ab i8 D2 w v ys) :
  Calls Tryz.prog 39 #[u,v] w fun e w'=>e=.returned (.bool (decide (xs=ys)))∧Later w w':=by
 obtain ⟨xA,xc,rfl,_,hxm,_⟩:=id hx
 obtain ⟨yA,yc,rfl,_,hym,_⟩:=id hy
 refine enter Tryz.func39 rfl Tryz.ntmps39 rfl ?_
 refine Rn [3,1,2,5,3,0,31,0,31,37,2,10] fun b10 hb10=>Aw (fun hc10=>?_) fun hc10=>?_
 ·have hno:¬xs=ys:=fun h=>by rw [hb10,h] at hc10; simp at hc10
  refine Rn [3,1,2,6,8] ?_
  refine aw rfl rfl (fun w' hm=>⟨?_,hm.b⟩)
  rw [decide_eq_false hno]
 have hlen:xs.length=ys.length:=by rw [hb10] at hc10; simp at hc10; omega
 refine Rn [16,5,3,1,2,14] ?_
 refine aO (σ:=Nat) (fun k=>k≤xs.length∧xs.take k=ys.take k) (fun k=>[(0,Value.slice xA xs.length xc),(1,Value.slice yA ys.length yc),(5,Vi (k:Nat))]) (fun k=>[]) (fun k=>[(w,fun _=>True)]) (fun k=>xs.length - k) (0) (⟨Nat.zero_le _,rfl⟩) (aC Zu (fun _ h=>h)) ?_
 rintro k ⟨hk,heq⟩
 refine Rn [144,5,3,0,0,31,24,2,12] fun b14 hb14=>Aw (fun hc14=>?_) fun hc14=>?_
 ·have hk1:k < xs.length:=by omega
  have hk2:k < ys.length:=by omega
  obtain ⟨xb,xo,hxA,_,hxc,_⟩:=fW hx hk1
  obtain ⟨yb,yo,hyA,_,hyc,_⟩:=fW hy hk2
  refine Rn [16,5,14,5] ?_
  refine bc 9 ?_
  refine Rn [0,0] ?_
  refine Xv rfl (ae ij cT (congrArg (fun A=>some (Value.slice A xs.length xc)) hxA) rfl Zo rfl) (Xl rfl u3 rfl (an (.head _) trivial (by rw [Nat.mul_one]; exact hxc)) ?_)
  refine Rn [0,0] ?_
  refine Xv rfl (ae ij cT (congrArg (fun A=>some (Value.slice A ys.length yc)) hyA) rfl Zo rfl) (Xl rfl u3 rfl (an (.head _) trivial (by rw [Nat.mul_one]; exact hyc)) ?_)
  refine Rn [37,2,10] fun b25 hb25=>Aw (fun hc25=>?_) fun hc25=>?_
  ·have hno:¬xs=ys:=fun h=>by
    subst h
    rw [hb25] at hc25; simp at hc25
   refine Rn [3,1,2,6,15,8,8,15,8] ?_
   refine aw rfl rfl (fun w' hm=>⟨?_,hm.b⟩)
   rw [decide_eq_false hno]
  have he:xs[k]=ys[k]:=by rw [hb25] at hc25; simpa using hc25
  refine Rn [45,27,17,18,0,26,1,13] ?_
  exact aJ (k+1) ⟨by omega,by rw [gv hk1,gv hk2,heq,he]⟩ (by omega) Zu (fun _ h=>h)
 obtain rfl:k=xs.length:=by omega
 rw [List.take_length,hlen,List.take_length] at heq
 refine Rn [34,19,19,35,17,3,1,2,6] ?_
 refine aw rfl rfl (fun w' hm=>⟨?_,hm.b⟩)
 rw [decide_eq_true heq]
theorem lawPlays {A0:Option Addr} {c0:Nat} {cs:List Ac4} (w:World) (hcs:ab rn (fun _=>True) w (.slice A0 cs.length c0) cs) {q0 q1:Int} (hq0:aj q0) (hL:LD w) :
  Calls Tryz.prog 7 #[Value.slice A0 cs.length c0,.agg #[Vi q0,Vi q1]] w fun e w'=>e=.returned (.bool (true))∧Later w w':=by
 refine enter Tryz.func7 rfl Tryz.ntmps7 rfl ?_
 refine Rn [3,36,1,9] fun p3=>?_
 refine Xh rfl Tryz.func10 rfl (fun w1 hw1=>wk w1 (hL.later hw1.b)) fun b18 hb18=>?_
 obtain rfl:b18=true:=hb18
 refine Rn [1,9] ?_
 refine Xv rfl (bp (j:=0) (off':=0) zu cT rfl rfl Zo rfl) ?_
 refine Rn [7] ?_
 refine Xv rfl (bp (j:=1) (off':=1) zu cT rfl rfl Zo rfl) ?_
 refine Rn [7] ?_
 refine fq (τ:=Jx×Jq) (fun u=>.tuple #[.agg [Pt u.1.x.pO,Pt u.1.x.pF,Pt u.1.pR].toArray,.bool true]) (fun u=>JG (q0%5000) u.1 (min (max q1 0) 1000000) (⟨[(⟨1,0,⟨20000,0,0⟩⟩:FG),⟨2,1,⟨9000,0,0⟩⟩,⟨3,1,⟨(q0%5000),0,0⟩⟩],(min (max q1 0) 1000000),[]⟩:SG) (⟨[(⟨1,0,⟨20000,0,0⟩⟩:FG),⟨2,1,⟨9000,0,0⟩⟩,⟨3,1,⟨(q0%5000),0,0⟩⟩],(min (max q1 0) 1000000),[]⟩:SG) u.2) (fun u=>([]++u.1.own (min (max q1 0) 1000000) (⟨[(⟨1,0,⟨20000,0,0⟩⟩:FG),⟨2,1,⟨9000,0,0⟩⟩,⟨3,1,⟨(q0%5000),0,0⟩⟩],(min (max q1 0) 1000000),[]⟩:SG) u.2 [])++[(p3,Obj.cells #[Vi q0,Vi q1] 61)]) rfl rfl rfl Tryz.func28 Zk rfl (fun w1 hw1=>(tc q0 q1 hq0 w1).mono fun e w2 ⟨u,h1,h2,h3⟩=>⟨u,h1,h3.b,h2,hw1.join2 h3⟩) ?_
 rintro ⟨y,z0⟩ hg0
 dsimp only at hg0
 refine Rn [0,20,48] fun b26 hb26=>?_
 obtain rfl:b26=true:=hb26
 refine Rn [28,32,1,2,5,3,0,43] fun p6 b28 hb28=>?_
 obtain rfl:b28=false:=hb28
 refine Rn [2,10] (Aw (fun hc28=>?_) fun hc28=>?_)
 ·cases hc28
 refine Rn [16,5,5] ?_
 refine dY (own':=(Bk p6 [Pt y.x.pO,Pt y.x.pF,Pt y.pR] 64)::(p3,Obj.cells #[Vi q0,Vi q1] 61)::y.own (min (max q1 0) 1000000) (⟨[(⟨1,0,⟨20000,0,0⟩⟩:FG),⟨2,1,⟨9000,0,0⟩⟩,⟨3,1,⟨(q0%5000),0,0⟩⟩],(min (max q1 0) 1000000),[]⟩:SG) z0 []) (ro':=[(w,fun _=>True)]) (fun w1 h=>h.perm (.cons _ (List.perm_append_comm (l₁:=y.own (min (max q1 0) 1000000) (⟨[(⟨1,0,⟨20000,0,0⟩⟩:FG),⟨2,1,⟨9000,0,0⟩⟩,⟨3,1,⟨(q0%5000),0,0⟩⟩],(min (max q1 0) 1000000),[]⟩:SG) z0 []) (l₂:=[(p3,Obj.cells #[Vi q0,Vi q1] 61)])))) ?_
 refine Rn [18,1,2,14] ?_
 refine aO (σ:=Nat×SG×Jq) (fun u=>u.1≤cs.length∧JG (q0%5000) y (min (max q1 0) 1000000) u.2.1 u.2.1 u.2.2) (fun u=>[(0,Value.slice A0 cs.length c0),(3,Pt p3),(5,Value.bool true),(6,Pt p6),(8,Vi (u.1:Nat))]) (fun u=>(Bk p6 [Pt y.x.pO,Pt y.x.pF,Pt y.pR] 64)::(p3,Obj.cells #[Vi q0,Vi q1] 61)::y.own (min (max q1 0) 1000000) u.2.1 u.2.2 []) (fun u=>[(w,fun _=>True)]) (fun u=>cs.length - u.1) ((0,(⟨[(⟨1,0,⟨20000,0,0⟩⟩:FG),⟨2,1,⟨9000,0,0⟩⟩,⟨3,1,⟨(q0%5000),0,0⟩⟩],(min (max q1 0) 1000000),[]⟩:SG),z0)) (⟨Nat.zero_le _,hg0⟩) (aC Zu (fun _ h=>h)) ?_
 rintro ⟨k,s,z⟩ ⟨hkL,hg⟩
 refine Rn [144] ?_
 dsimp only at hkL hg
 refine Rn [5,3,0,0,31,24,0,21,72,30,2,10] fun b32 hb32 b35 hb35 b36 hb36=>Aw (fun hc36=>?_) fun hc36=>?_
 ·simp only [hb36,hb35,hb32,Qz,ne_eq] at hc36
  have hk:k < cs.length:=by omega
  obtain ⟨E1,hE1⟩:∃ E,(⟨(cF (jG s.L)).toArray⟩:ByteArray)=E:=⟨_,rfl⟩
  obtain ⟨E2,hE2⟩:∃ E,(⟨(cF (er s.fs)).toArray⟩:ByteArray)=E:=⟨_,rfl⟩
  obtain ⟨b0,o0,hA0,hD0,hcell,hok⟩:=wu hcs hk
  obtain ⟨ik,ia,ib,ic⟩:=hok
  refine Rn [16,5,14,3,4,7] ?_
  refine Xc (v:=Value.string E1) rfl Tryz.func18 rfl (fun w1 hw1=>by
   have h:=sZ (l1:=[(Bk p6 [Pt y.x.pO,Pt y.x.pF,Pt y.pR] 64),(p3,Obj.cells #[Vi q0,Vi q1] 61)]) (L:=[]) hw1 hg
   rw [hE1] at h; exact h) ?_
  refine Rn [1,9,4,7] ?_
  refine Xc (v:=Value.string E2) rfl Tryz.func24 rfl (fun w1 hw1=>by
   have h:=ta (l1:=[(Bk p6 [Pt y.x.pO,Pt y.x.pF,Pt y.pR] 64),(p3,Obj.cells #[Vi q0,Vi q1] 61)]) (L:=[]) hw1 hg
   rw [hE2] at h; exact h) ?_
  refine Rn [1,2,5] ?_
  refine cL ([(Bk p6 [Pt y.x.pO,Pt y.x.pF,Pt y.pR] 64)]) 11 (.flt 0 (.flt 1 (.flt 2 (.flt 3 (.flt 4 (.gr 5 (.flt 6 (.flt 7 (.flt 8 (.flt 9 (.flt 10 .done))))) .nil)))))) (.cons_cons _ (List.nil_sublist _)) Zk Zk ?_
  refine g9 rfl rfl (bS (e:=64) (fz:=(0,0)) (cs:=[Pt y.x.pO,Pt y.x.pF,Pt y.pR].toArray) u64 rfl rfl (.head _) rQ) (g9 rfl rfl (eC rfl) (g9 rfl rfl (eC rfl) (g9 rfl rfl (ae u60 tJ (congrArg (fun A=>some (Value.slice A cs.length c0)) hA0) rfl (by omega) rfl) (g9 rfl rfl (bj (vs:=cs[k].cells) u42 rfl tJ rfl (fun i hi=>an (.head _) trivial (hcell i hi))) ?_))))
  refine k_gr ?_ k_nil
  refine gB (fun (u:Int×SG×Jq) v _ _=>v=.tuple #[Vi u.1,Vi u.1]∧(u.1≠0→u.2.1=s)∧JG (q0%5000) y (min (max q1 0) 1000000) u.2.1 u.2.1 u.2.2) (fun u=>(Bk p6 [Pt y.x.pO,Pt y.x.pF,Pt y.pR] 64)::(p3,Obj.cells #[Vi q0,Vi q1] 61)::y.own (min (max q1 0) 1000000) u.2.1 u.2.2 []) rfl rfl Tryz.func29 Zk rfl (fun w1 hw1=>(d_do (l1:=[(Bk p6 [Pt y.x.pO,Pt y.x.pF,Pt y.pR] 64),(p3,Obj.cells #[Vi q0,Vi q1] 61)]) (L:=[]) hw1 hg (.head _) hL cs[k].k cs[k].a cs[k].b cs[k].c ik ia ib ic).mono fun e w2 ⟨u,h1,h2,h3,h4⟩=>⟨_,h1,u,⟨rfl,h2,h3⟩,h4⟩) ?_
  rintro _ ⟨ec,s',z'⟩ wa wb _ ⟨rfl,herr,hg'⟩ _
  dsimp only at herr hg'
  refine Ze ?_
  refine k_end (.cons_cons _ (List.nil_sublist _)) (fun _ h=>List.mem_cons_of_mem _ h) ?_
  refine g9 rfl rfl (eC rfl) (g9 rfl rfl (eI rfl rfl) (g9 rfl rfl (eI rfl rfl) (g9 rfl rfl (gx rfl) (g9 rfl rfl (gx rfl) ?_))))
  refine k_done ?_
  refine Rn [2,5] ?_
  refine dY (own':=(Bk p6 [Pt y.x.pO,Pt y.x.pF,Pt y.pR] 64)::(p3,Obj.cells #[Vi q0,Vi q1] 61)::y.own (min (max q1 0) 1000000) s' z' []) (ro':=[(w,fun _=>True)]) (fun w1 h=>h.less (.refl _) (fun _ h=>.tail _ h)) ?_
  by_cases h0:ec=0
  ·refine Rn [18,0,0,37] fun b56 hb56=>?_
   obtain rfl:b56=false:=hb56.trans (decide_eq_false (fun q=>q rfl))
   refine Xm ?_
   refine cz rfl rfl rfl rfl rfl (bS (e:=64) (fz:=(0,0)) (cs:=[Pt y.x.pO,Pt y.x.pF,Pt y.pR].toArray) u64 rfl rfl (.head _) rQ) ?_
   refine fL rfl rfl rfl rfl rfl Tryz.func37 Zk rfl (fun w1 hw1=>tn (l1:=[(Bk p6 [Pt y.x.pO,Pt y.x.pF,Pt y.pR] 64),(p3,Obj.cells #[Vi q0,Vi q1] 61)]) (L:=[]) hw1 hg') fun b59 hb59=>?_
   obtain rfl:b59=true:=hb59
   refine Rn [100] fun b60 hb60=>?_
   obtain rfl:b60=false:=hb60
   refine Rn [25] fun b61 hb61=>?_
   obtain rfl:b61=false:=hb61
   refine Rn [0,29,79] fun b64 hb64=>?_
   obtain rfl:b64=false:=hb64.trans (decide_eq_false (fun q=>q h0))
   refine Rn [29,33,33,33,33,33,33] ?_
   refine kM rfl rfl rfl rfl ?_
   refine kM rfl rfl rfl rfl ?_
   refine kM rfl rfl rfl rfl ?_
   refine kM rfl rfl rfl rfl ?_
   refine kM rfl rfl rfl rfl ?_
   refine Rn [33] ?_
   refine db rfl rfl rfl rfl rfl (lz (v:=false) rfl rfl) fun b78 hb78=>?_
   obtain rfl:b78=false:=hb78
   refine Rn [25] fun b79 hb79=>?_
   obtain rfl:b79=false:=hb79
   refine Rn [2,10] (Aw (fun hc79=>?_) fun hc79=>?_)
   ·cases hc79
   refine Rn [45,27,17,18,0,26,1,13] ?_
   exact aJ (k+1,s',z') ⟨hk,hg'⟩ (by simp only; omega) Zu (fun _ h=>h)
  obtain rfl:=herr h0
  refine Rn [18,0,0,37] fun b56 hb56=>?_
  obtain rfl:b56=false:=hb56.trans (decide_eq_false (fun q=>q rfl))
  refine Xm ?_
  refine cz rfl rfl rfl rfl rfl (bS (e:=64) (fz:=(0,0)) (cs:=[Pt y.x.pO,Pt y.x.pF,Pt y.pR].toArray) u64 rfl rfl (.head _) rQ) ?_
  refine fL rfl rfl rfl rfl rfl Tryz.func37 Zk rfl (fun w1 hw1=>tn (l1:=[(Bk p6 [Pt y.x.pO,Pt y.x.pF,Pt y.pR] 64),(p3,Obj.cells #[Vi q0,Vi q1] 61)]) (L:=[]) hw1 hg') fun b59 hb59=>?_
  obtain rfl:b59=true:=hb59
  refine Rn [100] fun b60 hb60=>?_
  obtain rfl:b60=false:=hb60
  refine Rn [25] fun b61 hb61=>?_
  obtain rfl:b61=false:=hb61
  refine Rn [0,29,79] fun b64 hb64=>?_
  obtain rfl:b64=true:=hb64.trans (decide_eq_true h0)
  refine Rn [29,47,50] ?_
  refine dc (v:=Value.string E1) rfl rfl rfl rfl rfl Tryz.func18 Zk rfl (fun w1 hw1=>by
   have h:=sZ (l1:=[(Bk p6 [Pt y.x.pO,Pt y.x.pF,Pt y.pR] 64),(p3,Obj.cells #[Vi q0,Vi q1] 61)]) (L:=[]) hw1 hg'
   rw [hE1] at h; exact h) ?_
  refine Rn [29,91] fun b70 hb70=>?_
  obtain rfl:b70=false:=hb70.trans (decide_eq_false (fun q=>q rfl))
  refine Rn [29,47,50] ?_
  refine dc (v:=Value.string E2) rfl rfl rfl rfl rfl Tryz.func24 Zk rfl (fun w1 hw1=>by
   have h:=ta (l1:=[(Bk p6 [Pt y.x.pO,Pt y.x.pF,Pt y.pR] 64),(p3,Obj.cells #[Vi q0,Vi q1] 61)]) (L:=[]) hw1 hg'
   rw [hE2] at h; exact h) ?_
  refine Rn [29,91] fun b76 hb76=>?_
  obtain rfl:b76=false:=hb76.trans (decide_eq_false (fun q=>q rfl))
  refine Rn [104] fun b77 hb77=>?_
  obtain rfl:b77=false:=hb77
  refine Rn [97] fun b78 hb78=>?_
  obtain rfl:b78=false:=hb78
  refine Rn [25] fun b79 hb79=>?_
  obtain rfl:b79=false:=hb79
  refine Rn [2,10] (Aw (fun hc79=>?_) fun hc79=>?_)
  ·cases hc79
  refine Rn [45,27,17,18,0,26,1,13] ?_
  exact aJ (k+1,s',z') ⟨hk,hg'⟩ (by simp only; omega) Zu (fun _ h=>h)
 refine Rn [34,19,19,35,17,5,3,1,2,14] ?_
 refine aO (σ:=Nat) (fun i=>i≤8) (fun i=>[(5,Value.bool true),(6,Pt p6),(13,Vi (i:Nat))]) (fun i=>(Bk p6 [Pt y.x.pO,Pt y.x.pF,Pt y.pR] 64)::(p3,Obj.cells #[Vi q0,Vi q1] 61)::y.own (min (max q1 0) 1000000) s z []) (fun i=>[(w,fun _=>True)]) (fun i=>8 - i) (0) ((Nat.zero_le _)) (aC Zu (fun _ h=>h)) ?_
 rintro i hiL
 refine Rn [144,5,3,0,24,2,12] fun b81 hb81=>Aw (fun hc81=>?_) fun hc81=>?_
 ·have hi:i < 8:=by omega
  have hid:aj (i:Nat):=by unfold aj; omega
  obtain ⟨xo,hxo⟩:∃ q,(zw (cq s.L (i:Nat))).1=q:=⟨_,rfl⟩
  obtain ⟨xb,hxb⟩:∃ q,(cq s.L (i:Nat)).isSome=q:=⟨_,rfl⟩
  refine Rn [16,5,14,3,4,7,0] ?_
  refine Xc (v:=Value.tuple #[.agg xo.cells.toArray,.bool xb]) rfl Tryz.func11 rfl (fun w1 hw1=>by
   have h:=uZ (l1:=[(Bk p6 [Pt y.x.pO,Pt y.x.pF,Pt y.pR] 64),(p3,Obj.cells #[Vi q0,Vi q1] 61)]) (L:=[]) hw1 hg (id:=(i:Nat)) hid
   rw [hxo,hxb] at h; exact h) ?_
  refine Rn [0,20,48,28,32,1,9,4,7,0] fun b90 hb90 p14=>?_
  refine Xc (v:=Value.tuple #[.agg xo.cells.toArray,.bool xb]) rfl Tryz.func38 rfl (fun w1 hw1=>by
   have h:=jr_Order (l1:=[(Bk p14 xo.cells 25),(Bk p6 [Pt y.x.pO,Pt y.x.pF,Pt y.pR] 64),(p3,Obj.cells #[Vi q0,Vi q1] 61)]) (L:=[]) hw1 hg (i:Nat)
   rw [hxo,hxb] at h; exact h) ?_
  refine Rn [0,20,48,28,32,1,9,39,39] fun b97 hb97 p16=>?_
  refine Xb rfl (ui Zk rfl rfl (fun w1=>eq25 w1 xo xo)) fun b100 hb100=>?_
  obtain rfl:b100=false:=hb100.trans (by simp)
  refine Rn [0,29,29] ?_
  refine db rfl rfl rfl rfl rfl (v_bneq rfl rfl u4) fun b104 hb104=>?_
  obtain rfl:b104=false:=hb104.trans (by rw [hb90,hb97]; simp)
  refine Rn [25] fun b105 hb105=>?_
  obtain rfl:b105=false:=hb105
  refine Rn [2,10] (Aw (fun hc105=>?_) fun hc105=>?_)
  ·cases hc105
  refine Rn [45,27,17,18,0,26,1,13] ?_
  exact aJ (i+1) hi (by show 8 - (i+1) < 8 - i; omega) Zu (fun w1 h=>h.less (Ls.trans Ls) (fun _ h=>h))
 refine Rn [34,19,19,35,17,5] ?_
 refine ew 11 [(true,0),(true,1),(true,2),(true,3),(true,5),(true,6),(false,4),(false,7),(true,8),(true,9),(true,10)] Zk Zk ?_
 refine Rn [0,0,47,50,47,50] ?_
 refine nU (R:=fun v wa wb=>ab i8 (fun b=>wa.heap.size≤b) wb v (s.L.map (·.1.id))) rfl rfl rfl rfl rfl Tryz.func20 Zk rfl (fun w1 hw1=>(jp_All (l1:=[(Bk p6 [Pt y.x.pO,Pt y.x.pF,Pt y.pR] 64),(p3,Obj.cells #[Vi q0,Vi q1] 61)]) (L:=[]) hw1 hg).mono fun e w2 ⟨v,h1,h2,h3⟩=>⟨_,h1,h2,h3⟩) fun v110 wa110 wb110 hm110 hl110 hR110=>?_
 refine nU (R:=fun v wa wb=>ab i8 (fun b=>wa.heap.size≤b) wb v (s.L.map (·.1.id))) rfl rfl rfl rfl rfl Tryz.func40 Zk rfl (fun w1 hw1=>(jr_All (l1:=[(Bk p6 [Pt y.x.pO,Pt y.x.pF,Pt y.pR] 64),(p3,Obj.cells #[Vi q0,Vi q1] 61)]) (L:=[]) hw1 hg).mono fun e w2 ⟨v,h1,h2,h3⟩=>⟨_,h1,h2,h3⟩) fun v113 wa113 wb113 hm113 hl113 hR113=>?_
 refine fL rfl rfl rfl rfl rfl Tryz.func39 Zk rfl (fun w1 hw1=>c_SameZ w1 (bY hR110 hw1 Zh hm110) (bY hR113 hw1 (.head _) hm113)) fun b114 hb114=>?_
 obtain rfl:b114=true:=hb114.trans (decide_eq_true rfl)
 refine Rn [30,1,2,6] fun b115 hb115=>?_
 refine aw rfl rfl (fun w' hm=>⟨?_,hm.b⟩)
 rw [hb115]; rfl
open Go.RowKit Go.PK
def laidL:List (String×DataW Unit):=[("math/bits.deBruijn32tab",Rows.laid_math_bits_deBruijn32tab),("math/bits.deBruijn64tab",Rows.laid_math_bits_deBruijn64tab),("internal/strconv.uint64pow10",Rows.laid_internal_strconv_uint64pow10),("unicode/utf8.acceptRanges",Rows.laid_unicode_utf8_acceptRanges),("strconv.ErrRange",Rows.laid_strconv_ErrRange),("strconv.ErrSyntax",Rows.laid_strconv_ErrSyntax),("unicode/utf8.first",Rows.laid_unicode_utf8_first)]
theorem pD {W:World} (h:laidMetH Tryz.prog laidL W):laidMet Tryz.prog laidL W:=by
 have h1:=(laidMetH_iff.1 h).1
 rwa [show (laidL.filter fun x=>x.2.handleName?.isNone)=laidL from by kernel_rfl] at h1
theorem laid_tab {W:World} (h:laidMet Tryz.prog laidL W):Lib.TabIs Tryz.prog W "internal/strconv.uint64pow10" .u64 Lib.pow10Tab:=by
 have h1:=h.filter fun x=>x.1 == "internal/strconv.uint64pow10"
 have e:(laidL.filter fun x=>x.1 == "internal/strconv.uint64pow10")=[("internal/strconv.uint64pow10",Lib.tabData .u64 Lib.pow10Tab)]:=by kernel_rfl
 rw [e] at h1
 exact Lib.tabIs_of_head (g:=3) (t:=289) (e:=151) (n:=20) Zk Zk Zk Zk Zk Zk h1
theorem star: "*"++ "errors.errorString"= "*errors.errorString":=by decide
theorem row104 (u:TypeId) (h:Tryz.prog.typeName? 3 u=some "*errors.errorString"):u=283 :=
 typeName_ptr_named (nm:= "errors.errorString") (by rw [star]; kernel_rfl) Zk (by decide) u (by rw [star]; exact h)
theorem laid_syn {W:World} (h:laidMet Tryz.prog laidL W):∃ tp p,W.var? Tryz.prog "strconv.ErrSyntax"=some #[.iface tp p]:=by
 have h1:=h.filter fun x=>x.1 == "strconv.ErrSyntax"
 have e:(laidL.filter fun x=>x.1 == "strconv.ErrSyntax")=[("strconv.ErrSyntax",.iface "*errors.errorString" (.ptr (.agg [.lit (.string [105,110,118,97,108,105,100,32,115,121,110,116,97,120])])))]:=by kernel_rfl
 rw [e] at h1
 obtain ⟨a0,s0,hv0,_⟩:=laid_sentinel (g:=0) (ti:=175) (tp:=283) (te:=285) (ts:=9) h1 Zk Zk u175 row104 u283 u285 rfl rfl u9 Zk Zk
 exact ⟨_,_,hv0⟩
theorem laid_rng {W:World} (h:laidMet Tryz.prog laidL W):∃ tp p,W.var? Tryz.prog "strconv.ErrRange"=some #[.iface tp p]:=by
 have h1:=h.filter fun x=>x.1 == "strconv.ErrRange"
 have e:(laidL.filter fun x=>x.1 == "strconv.ErrRange")=[("strconv.ErrRange",.iface "*errors.errorString" (.ptr (.agg [.lit (.string [118,97,108,117,101,32,111,117,116,32,111,102,32,114,97,110,103,101])])))]:=by kernel_rfl
 rw [e] at h1
 obtain ⟨a0,s0,hv0,_⟩:=laid_sentinel (g:=1) (ti:=175) (tp:=283) (te:=285) (ts:=9) h1 Zk Zk u175 row104 u283 u285 rfl rfl u9 Zk Zk
 exact ⟨_,_,hv0⟩
theorem ld_of {W:World} (h:laidMetH Tryz.prog laidL W) (hS:W.ShapedOpen Tryz.prog):LD W:=⟨laid_tab (pD h),Tryz.laysM146.s1_3 W hS,laid_syn (pD h),laid_rng (pD h)⟩
theorem laid_met (os:Os) (args:Array Value):laidMet Tryz.prog laidL ((World.laidAll Tryz.prog os laidL).forCall (fun _ _=>0) ⟨#[],args,[]⟩).memory :=
 laidMet_laidAll args Zk Zk
theorem bulk_one {H:Type} (d:DataW H):1≤Rows.uptoBulk d:=by
 cases d with
 | lit l=>cases l <;> simp [Rows.uptoBulk]
 | nil=>simp [Rows.uptoBulk]
 | ptr d=>simp [Rows.uptoBulk]
 | slice elems spare=>simp [Rows.uptoBulk]
 | agg parts=>simp [Rows.uptoBulk]
 | iface t d=>simp [Rows.uptoBulk]
 | map entries=>simp [Rows.uptoBulk]
 | held h=>simp [Rows.uptoBulk]
def meas (H:Type):Meas H:=⟨Rows.uptoBulk,Rows.uptoBulkAll,fun _=>by simp [Rows.uptoBulk],fun _ _=>by simp [Rows.uptoBulk],fun _=>by simp [Rows.uptoBulk],fun _ _=>by simp [Rows.uptoBulkAll],bulk_one⟩
open Go.RowKit Go.PK
open Go.RowKit Go.PK
theorem rdr_ac4:Rdr Tryz.prog 42 rn :=
 rdr_conv (U:=tyAc4U) rfl ac4_conv (vg u42 Zk (by decide) (.cons rfl (wE u3 Zk) (.cons rfl (wE u3 Zk) (.cons rfl (wE u3 Zk) (.cons rfl (wE u3 Zk) (.nil _))))))
open Go.RowKit Go.PK
theorem lawBalance {A0:Option Addr} {c0:Nat} {cs:List Ac4} (w:World) (hcs:ab rn (fun _=>True) w (.slice A0 cs.length c0) cs) {q0 q1:Int} (hq0:aj q0) (hL:LD w) :
  Calls Tryz.prog 5 #[Value.slice A0 cs.length c0,.agg #[Vi q0,Vi q1]] w fun e w'=>e=.returned (.bool (true))∧Later w w':=by
 refine enter Tryz.func5 rfl Tryz.ntmps5 rfl ?_
 refine Rn [3,36,1,9] fun p3=>?_
 refine Xh rfl Tryz.func10 rfl (fun w1 hw1=>wk w1 (hL.later hw1.b)) fun b17 hb17=>?_
 obtain rfl:b17=true:=hb17
 refine Rn [1,9] ?_
 refine Xv rfl (bp (j:=0) (off':=0) zu cT rfl rfl Zo rfl) ?_
 refine Rn [7] ?_
 refine Xv rfl (bp (j:=1) (off':=1) zu cT rfl rfl Zo rfl) ?_
 refine Rn [7] ?_
 refine fq (τ:=Jx×Jq) (fun u=>.tuple #[.agg [Pt u.1.x.pO,Pt u.1.x.pF,Pt u.1.pR].toArray,.bool true]) (fun u=>JG (q0%5000) u.1 (min (max q1 0) 1000000) (⟨[(⟨1,0,⟨20000,0,0⟩⟩:FG),⟨2,1,⟨9000,0,0⟩⟩,⟨3,1,⟨(q0%5000),0,0⟩⟩],(min (max q1 0) 1000000),[]⟩:SG) (⟨[(⟨1,0,⟨20000,0,0⟩⟩:FG),⟨2,1,⟨9000,0,0⟩⟩,⟨3,1,⟨(q0%5000),0,0⟩⟩],(min (max q1 0) 1000000),[]⟩:SG) u.2) (fun u=>([]++u.1.own (min (max q1 0) 1000000) (⟨[(⟨1,0,⟨20000,0,0⟩⟩:FG),⟨2,1,⟨9000,0,0⟩⟩,⟨3,1,⟨(q0%5000),0,0⟩⟩],(min (max q1 0) 1000000),[]⟩:SG) u.2 [])++[(p3,Obj.cells #[Vi q0,Vi q1] 61)]) rfl rfl rfl Tryz.func28 Zk rfl (fun w1 hw1=>(tc q0 q1 hq0 w1).mono fun e w2 ⟨u,h1,h2,h3⟩=>⟨u,h1,h3.b,h2,hw1.join2 h3⟩) ?_
 rintro ⟨y,z0⟩ hg0
 dsimp only at hg0
 refine Rn [0,20,48] fun b25 hb25=>?_
 obtain rfl:b25=true:=hb25
 refine Rn [28,32,1,2,5,3,0,43] fun p6 b27 hb27=>?_
 obtain rfl:b27=false:=hb27
 refine Rn [2,10] (Aw (fun hc27=>?_) fun hc27=>?_)
 ·cases hc27
 refine Rn [16,5,5] ?_
 refine dY (own':=(Bk p6 [Pt y.x.pO,Pt y.x.pF,Pt y.pR] 64)::(p3,Obj.cells #[Vi q0,Vi q1] 61)::y.own (min (max q1 0) 1000000) (⟨[(⟨1,0,⟨20000,0,0⟩⟩:FG),⟨2,1,⟨9000,0,0⟩⟩,⟨3,1,⟨(q0%5000),0,0⟩⟩],(min (max q1 0) 1000000),[]⟩:SG) z0 []) (ro':=[(w,fun _=>True)]) (fun w1 h=>h.perm (.cons _ (List.perm_append_comm (l₁:=y.own (min (max q1 0) 1000000) (⟨[(⟨1,0,⟨20000,0,0⟩⟩:FG),⟨2,1,⟨9000,0,0⟩⟩,⟨3,1,⟨(q0%5000),0,0⟩⟩],(min (max q1 0) 1000000),[]⟩:SG) z0 []) (l₂:=[(p3,Obj.cells #[Vi q0,Vi q1] 61)])))) ?_
 refine Rn [18,1,2,14] ?_
 refine aO (σ:=Nat×SG×Jq) (fun u=>u.1≤cs.length∧JG (q0%5000) y (min (max q1 0) 1000000) u.2.1 u.2.1 u.2.2) (fun u=>[(0,Value.slice A0 cs.length c0),(3,Pt p3),(5,Value.bool true),(6,Pt p6),(8,Vi (u.1:Nat))]) (fun u=>(Bk p6 [Pt y.x.pO,Pt y.x.pF,Pt y.pR] 64)::(p3,Obj.cells #[Vi q0,Vi q1] 61)::y.own (min (max q1 0) 1000000) u.2.1 u.2.2 []) (fun u=>[(w,fun _=>True)]) (fun u=>cs.length - u.1) ((0,(⟨[(⟨1,0,⟨20000,0,0⟩⟩:FG),⟨2,1,⟨9000,0,0⟩⟩,⟨3,1,⟨(q0%5000),0,0⟩⟩],(min (max q1 0) 1000000),[]⟩:SG),z0)) (⟨Nat.zero_le _,hg0⟩) (aC Zu (fun _ h=>h)) ?_
 rintro ⟨k,s,z⟩ ⟨hkL,hg⟩
 refine Rn [144] ?_
 dsimp only at hkL hg
 refine Rn [5,3,0,0,31,24,0,21,72,30,2,10] fun b31 hb31 b34 hb34 b35 hb35=>Aw (fun hc35=>?_) fun hc35=>?_
 ·simp only [hb35,hb34,hb31,Qz,ne_eq] at hc35
  have hk:k < cs.length:=by omega
  obtain ⟨b0,o0,hA0,hD0,hcell,hok⟩:=wu hcs hk
  obtain ⟨ik,ia,ib,ic⟩:=hok
  refine Rn [16,5,14] ?_
  refine bc 5 ?_
  refine Rn [39,0,0] ?_
  refine Xv rfl (ae u60 tJ (congrArg (fun A=>some (Value.slice A cs.length c0)) hA0) rfl (by omega) rfl) (Xv rfl (bj (vs:=cs[k].cells) u42 rfl tJ rfl (fun i hi=>an (.head _) trivial (hcell i hi))) ?_)
  refine gB (fun (u:Int×SG×Jq) v _ _=>v=.tuple #[Vi u.1,Vi u.1]∧(u.1≠0→u.2.1=s)∧JG (q0%5000) y (min (max q1 0) 1000000) u.2.1 u.2.1 u.2.2) (fun u=>(Bk p6 [Pt y.x.pO,Pt y.x.pF,Pt y.pR] 64)::(p3,Obj.cells #[Vi q0,Vi q1] 61)::y.own (min (max q1 0) 1000000) u.2.1 u.2.2 []) rfl rfl Tryz.func29 Zk rfl (fun w1 hw1=>(d_do (l1:=[(Bk p6 [Pt y.x.pO,Pt y.x.pF,Pt y.pR] 64),(p3,Obj.cells #[Vi q0,Vi q1] 61)]) (L:=[]) hw1 hg (.head _) hL cs[k].k cs[k].a cs[k].b cs[k].c ik ia ib ic).mono fun e w2 ⟨u,h1,h2,h3,h4⟩=>⟨_,h1,u,⟨rfl,h2,h3⟩,h4⟩) ?_
  rintro _ ⟨ec,s',z'⟩ wa wb _ ⟨rfl,herr,hg'⟩ _
  dsimp only at herr hg'
  refine Rn [13,27,17,18,0,26,1,13] ?_
  exact aJ (k+1,s',z') ⟨hk,hg'⟩ (by simp only; omega) Zu (fun w1 h=>h.less (.refl _) (fun _ h=>.tail _ h))
 refine Rn [34,19,19,35,17,3,28,9,4,7] fun p9=>?_
 refine Xd (R:=fun v wa wb=>ab i8 (fun b=>wa.heap.size≤b) wb v (s.L.map (·.1.id))) rfl Tryz.func20 rfl (fun w1 hw1=>(jp_All (l1:=[(Bk p9 (pK []) 69),(Bk p6 [Pt y.x.pO,Pt y.x.pF,Pt y.pR] 64),(p3,Obj.cells #[Vi q0,Vi q1] 61)]) (L:=[]) hw1 hg).mono fun e w2 ⟨v,h1,h2,h3⟩=>⟨_,h1,h2,h3⟩) fun v46 wa46 wb46 hm46 hl46 hR46=>?_
 obtain ⟨A46,c46,rfl,_⟩:=id hR46
 rw [List.length_map] at hR46 ⊢
 refine Rn [1,2,5,3,1,2,14] ?_
 refine aO (σ:=Nat) (fun i=>i≤s.L.length) (fun i=>[(5,Value.bool true),(6,Pt p6),(9,Pt p9),(10,Value.slice A46 s.L.length c46),(11,Vi (i:Nat))]) (fun i=>(Bk p9 (pK (s.L.take i)) 69)::(Bk p6 [Pt y.x.pO,Pt y.x.pF,Pt y.pR] 64)::(p3,Obj.cells #[Vi q0,Vi q1] 61)::y.own (min (max q1 0) 1000000) s z []) (fun i=>(wb46,a7 ((Bk p9 (pK []) 69)::(Bk p6 [Pt y.x.pO,Pt y.x.pF,Pt y.pR] 64)::(p3,Obj.cells #[Vi q0,Vi q1] 61)::y.own (min (max q1 0) 1000000) s z []))::[(w,fun _=>True)]) (fun i=>s.L.length - i) (0) ((Nat.zero_le _)) (aC Zu (fun _ h=>h)) ?_
 rintro i hiL
 refine Rn [144,5,3,0,0,31,24,2,12] fun b50 hb50=>Aw (fun hc50=>?_) fun hc50=>?_
 ·have hi:i < s.L.length:=by omega
  obtain ⟨b0,o0,hA0,hD0,hc0,hin0⟩:=fW hR46 (k:=i) (by rw [List.length_map]; exact hi)
  have hlk:=lkL_at hg.d1.inv.ok.srt hi
  rw [List.getElem_map] at hc0 hin0
  have hsm:=hg.d1.sm _ (List.getElem_mem hi)
  have hbal:=hg.d1.inv.bal _ (List.getElem_mem hi)
  have hord:=(hg.d1.inv.ok.L _ (List.getElem_mem hi)).1
  have hres:=res_le hsm hbal hord
  have hsum:=fun j=>yl j (L:=s.L) (fun e he=>⟨hg.d1.sm e he,hg.d1.inv.bal e he,(hg.d1.inv.ok.L e he).1⟩) i
  have hlen:=hg.d1.len
  obtain ⟨x,hx⟩:∃ x,s.L[i].1=x:=⟨_,rfl⟩
  unfold pJ at hsm
  rw [hx] at hc0 hin0 hlk hsm hbal hord hres
  obtain ⟨F,hF⟩:=Int.eq_ofNat_of_zero_le (show 0≤x.fund by omega)
  have hF4:F < 5:=by omega
  unfold kC at hbal
  unfold dm at hord
  refine Rn [16,5,14,5] ?_
  refine cL ((Bk p9 (pK (s.L.take i)) 69)::(Bk p6 [Pt y.x.pO,Pt y.x.pF,Pt y.pR] 64)::(p3,Obj.cells #[Vi q0,Vi q1] 61)::y.own (min (max q1 0) 1000000) s z []) 13 (.flt 0 (.flt 1 (.flt 2 (.flt 3 (.flt 4 (.flt 5 (.flt 6 (.flt 7 (.flt 8 (.flt 9 (.gr 10 (.gr 11 (.flt 12 .done) .nil) .nil))))))))))) (.refl _) Zk Zk ?_
  refine Rn [41,49,44,44] ?_
  refine dq rfl rfl (ae ij cT (congrArg (fun A=>some (Value.slice A s.L.length c46)) hA0) rfl (by omega) rfl) (dq rfl rfl (aW u3 rfl rfl (an (.head _) (fun q hq e=>by have:=hm46.lt hq; omega) (by rw [Nat.mul_one]; exact hc0))) ?_)
  refine lI (v:=Value.tuple #[.agg x.cells.toArray,.bool true]) rfl rfl Tryz.func11 Zk rfl (fun w1 hw1=>by
   have h:=uZ (l1:=[(Bk p9 (pK (s.L.take i)) 69),(Bk p6 [Pt y.x.pO,Pt y.x.pF,Pt y.pR] 64),(p3,Obj.cells #[Vi q0,Vi q1] 61)]) (L:=[]) hw1 hg (id:=x.id) hin0
   rw [hlk,show (zw (some s.L[i])).1=x from hx] at h; exact h) ?_
  refine Rn [44,77,78] fun b62 hb62=>?_
  obtain rfl:b62=true:=hb62
  refine Rn [42,28,13,58,42,32,13,58,55,56,2,5,5] fun p12=>?_
  by_cases h0:0≤x.st
  ·refine Rn [18,0,43] fun b64 hb64=>?_
   obtain rfl:b64=false:=hb64
   refine Rn [0,47,50,76] fun b68 hb68=>?_
   obtain rfl:b68=false:=hb68.trans (decide_eq_false (by omega))
   refine Rn [25] fun b69 hb69=>?_
   obtain rfl:b69=false:=hb69
   refine Rn [0,47,50,68] fun b73 hb73=>?_
   obtain rfl:b73=false:=hb73.trans (decide_eq_false (by omega))
   refine Rn [25] fun b74 hb74=>?_
   obtain rfl:b74=false:=hb74
   refine Rn [0,47,50,47,50,68] fun b80 hb80=>?_
   obtain rfl:b80=false:=hb80.trans (decide_eq_false (by omega))
   refine Rn [25] fun b81 hb81=>?_
   obtain rfl:b81=false:=hb81
   refine Rn [0,47,50,47,50,68] fun b87 hb87=>?_
   obtain rfl:b87=false:=hb87.trans (decide_eq_false (by omega))
   refine Rn [25] fun b88 hb88=>?_
   obtain rfl:b88=false:=hb88
   refine Rn [0,47,50,103] fun b92 hb92=>?_
   obtain rfl:b92=true:=hb92.trans (decide_eq_true h0)
   refine Rn [29,47,50,47,50,68] fun b98 hb98=>?_
   obtain rfl:b98=false:=hb98.trans (decide_eq_false (by omega))
   refine Rn [29,47,50,47,50,68] fun b104 hb104=>?_
   obtain rfl:b104=false:=hb104.trans (decide_eq_false (by omega))
   refine Rn [104] fun b105 hb105=>?_
   obtain rfl:b105=false:=hb105
   refine Rn [97] fun b106 hb106=>?_
   obtain rfl:b106=false:=hb106
   refine Rn [25] fun b107 hb107=>?_
   obtain rfl:b107=false:=hb107
   refine Rn [2,10] (Aw (fun hc107=>?_) fun hc107=>?_)
   ·cases hc107
   refine Rn [16] ?_
   refine bc 16 ?_
   refine Rn [4] ?_
   refine Xv (v:=Vi (F:Nat)) rfl (aW u3 rfl rfl (aa (vs:=x.cells) (off:=1) (.head _) (by show some (Vi x.fund)=_; rw [hF]))) ?_
   refine Rn [4] ?_
   refine Xv (v:=Vi (F:Nat)) rfl (aW u3 rfl rfl (aa (vs:=x.cells) (off:=1) (.head _) (by show some (Vi x.fund)=_; rw [hF]))) (Xv rfl (bp u69 cT rfl rfl (by omega) rfl) (Xl rfl u3 rfl (aa (vs:=pK (s.L.take i)) (.tail _ (.head _)) (by rw [Nat.zero_add,Nat.mul_one]; exact wv hF4)) ?_))
   refine Rn [4,7,4,7,54,4,7] ?_
   refine Xv (v:=Vi (aL x)) rfl (cY rfl rfl rfl (by omega)) (Xv (v:=Vi (dp (s.L.take i) (F:Nat)+aL x)) rfl (bg rfl rfl rfl (by have:=hsum (F:Nat); omega)) (Xv rfl (bp u69 cT rfl rfl (by omega) rfl) ?_))
   refine aG (cs:=pK (s.L.take i)) (off:=0+F*1) (e:=69) (l2:=(Bk p6 [Pt y.x.pO,Pt y.x.pF,Pt y.pR] 64)::(p3,Obj.cells #[Vi q0,Vi q1] 61)::y.own (min (max q1 0) 1000000) s z []) [(Bk p12 x.cells 25)] rfl rfl rfl rfl cT rfl (by show _≤5; omega) ?_
   refine Rn [13,27,17,18,0,26,1,13] ?_
   exact aJ (i+1) hi (by show s.L.length - (i+1) < s.L.length - i; omega) Zu (fun w1 h=>(h.to (show _=(Bk p12 x.cells 25)::(Bk p9 (pK (s.L.take (i+1))) 69)::(Bk p6 [Pt y.x.pO,Pt y.x.pF,Pt y.pR] 64)::(p3,Obj.cells #[Vi q0,Vi q1] 61)::y.own (min (max q1 0) 1000000) s z [] by rw [List.take_succ_eq_append_getElem hi,← yk hF4 (show s.L[i].1.fund=(F:Nat) by rw [hx,hF]),hx,Nat.zero_add,Nat.mul_one]; rfl)).less Ls (fun _ h=>h))
  refine Rn [18,0,43] fun b64 hb64=>?_
  obtain rfl:b64=false:=hb64
  refine Rn [0,47,50,76] fun b68 hb68=>?_
  obtain rfl:b68=false:=hb68.trans (decide_eq_false (by omega))
  refine Rn [25] fun b69 hb69=>?_
  obtain rfl:b69=false:=hb69
  refine Rn [0,47,50,68] fun b73 hb73=>?_
  obtain rfl:b73=false:=hb73.trans (decide_eq_false (by omega))
  refine Rn [25] fun b74 hb74=>?_
  obtain rfl:b74=false:=hb74
  refine Rn [0,47,50,47,50,68] fun b80 hb80=>?_
  obtain rfl:b80=false:=hb80.trans (decide_eq_false (by omega))
  refine Rn [25] fun b81 hb81=>?_
  obtain rfl:b81=false:=hb81
  refine Rn [0,47,50,47,50,68] fun b87 hb87=>?_
  obtain rfl:b87=false:=hb87.trans (decide_eq_false (by omega))
  refine Rn [25] fun b88 hb88=>?_
  obtain rfl:b88=false:=hb88
  refine Rn [0,47,50,103] fun b92 hb92=>?_
  obtain rfl:b92=false:=hb92.trans (decide_eq_false h0)
  refine Rn [29,33,33,33,33,33,33] ?_
  refine kM rfl rfl rfl rfl ?_
  refine kM rfl rfl rfl rfl ?_
  refine kM rfl rfl rfl rfl ?_
  refine kM rfl rfl rfl rfl ?_
  refine kM rfl rfl rfl rfl ?_
  refine Rn [33] ?_
  refine db rfl rfl rfl rfl rfl (lz (v:=false) rfl rfl) fun b106 hb106=>?_
  obtain rfl:b106=false:=hb106
  refine Rn [25] fun b107 hb107=>?_
  obtain rfl:b107=false:=hb107
  refine Rn [2,10] (Aw (fun hc107=>?_) fun hc107=>?_)
  ·cases hc107
  refine Rn [16] ?_
  refine bc 16 ?_
  refine Rn [4] ?_
  refine Xv (v:=Vi (F:Nat)) rfl (aW u3 rfl rfl (aa (vs:=x.cells) (off:=1) (.head _) (by show some (Vi x.fund)=_; rw [hF]))) ?_
  refine Rn [4] ?_
  refine Xv (v:=Vi (F:Nat)) rfl (aW u3 rfl rfl (aa (vs:=x.cells) (off:=1) (.head _) (by show some (Vi x.fund)=_; rw [hF]))) (Xv rfl (bp u69 cT rfl rfl (by omega) rfl) (Xl rfl u3 rfl (aa (vs:=pK (s.L.take i)) (.tail _ (.head _)) (by rw [Nat.zero_add,Nat.mul_one]; exact wv hF4)) ?_))
  refine Rn [4,7,4,7,54,4,7] ?_
  refine Xv (v:=Vi (aL x)) rfl (cY rfl rfl rfl (by omega)) (Xv (v:=Vi (dp (s.L.take i) (F:Nat)+aL x)) rfl (bg rfl rfl rfl (by have:=hsum (F:Nat); omega)) (Xv rfl (bp u69 cT rfl rfl (by omega) rfl) ?_))
  refine aG (cs:=pK (s.L.take i)) (off:=0+F*1) (e:=69) (l2:=(Bk p6 [Pt y.x.pO,Pt y.x.pF,Pt y.pR] 64)::(p3,Obj.cells #[Vi q0,Vi q1] 61)::y.own (min (max q1 0) 1000000) s z []) [(Bk p12 x.cells 25)] rfl rfl rfl rfl cT rfl (by show _≤5; omega) ?_
  refine Rn [13,27,17,18,0,26,1,13] ?_
  exact aJ (i+1) hi (by show s.L.length - (i+1) < s.L.length - i; omega) Zu (fun w1 h=>(h.to (show _=(Bk p12 x.cells 25)::(Bk p9 (pK (s.L.take (i+1))) 69)::(Bk p6 [Pt y.x.pO,Pt y.x.pF,Pt y.pR] 64)::(p3,Obj.cells #[Vi q0,Vi q1] 61)::y.own (min (max q1 0) 1000000) s z [] by rw [List.take_succ_eq_append_getElem hi,← yk hF4 (show s.L[i].1.fund=(F:Nat) by rw [hx,hF]),hx,Nat.zero_add,Nat.mul_one]; rfl)).less Ls (fun _ h=>h))
 obtain rfl:i=s.L.length:=by omega
 rw [List.take_length]
 refine Rn [34,19,19,35,17,5,3,1,2,14] ?_
 refine aO (σ:=Nat) (fun i=>1≤i∧i≤4) (fun i=>[(5,Value.bool true),(6,Pt p6),(9,Pt p9),(14,Vi (i:Nat))]) (fun i=>(Bk p9 (pK s.L) 69)::(Bk p6 [Pt y.x.pO,Pt y.x.pF,Pt y.pR] 64)::(p3,Obj.cells #[Vi q0,Vi q1] 61)::y.own (min (max q1 0) 1000000) s z []) (fun i=>(wb46,a7 ((Bk p9 (pK []) 69)::(Bk p6 [Pt y.x.pO,Pt y.x.pF,Pt y.pR] 64)::(p3,Obj.cells #[Vi q0,Vi q1] 61)::y.own (min (max q1 0) 1000000) s z []))::[(w,fun _=>True)]) (fun i=>4 - i) (1) (⟨Nat.le_refl _,by decide⟩) (aC Zu (fun _ h=>h)) ?_
 rintro i hiL
 refine Rn [144,5,3,0,24,2,10] fun b125 hb125=>Aw (fun hc125=>?_) fun hc125=>?_
 ·simp only [hb125,Qz,ne_eq] at hc125
  obtain ⟨f,hlf,hfo,hfe⟩:=hg.d1.fund (i:=(i:Nat)) (by omega)
  have hid:aj (i:Nat):=by unfold aj; omega
  have hfb:=free_bd hfo
  unfold aR at hfo
  refine Rn [16,5,14,3,4,7,0] ?_
  refine Xd (R:=fun v wa wb=>∃ j p,v=.tuple #[.agg (eN ⟨j,p,f⟩).toArray,.bool true]) rfl Tryz.func30 rfl (fun w1 hw1=>(jp_Fund (l1:=[(Bk p9 (pK s.L) 69),(Bk p6 [Pt y.x.pO,Pt y.x.pF,Pt y.pR] 64),(p3,Obj.cells #[Vi q0,Vi q1] 61)]) (L:=[]) hw1 hg (id:=(i:Nat)) hid hlf).mono fun e w2 ⟨⟨j,p,h1⟩,h2⟩=>⟨_,h1,h2,j,p,rfl⟩) fun v132 wa132 wb132 hm132 hl132 hR132=>?_
  obtain ⟨j,p,rfl⟩:=hR132
  refine Rn [0,20,48,28,32,1,2,5] fun b134 hb134 p15=>?_
  refine bc 28 ?_
  refine Rn [4] ?_
  refine Xl rfl u3 rfl (aa (vs:=eN ⟨j,p,f⟩) (off:=4) (v:=Vi f.en) (.head _) rfl) (Xm ?_)
  refine Xv rfl (bp u69 cT rfl rfl (by omega) rfl) (Xl rfl u3 rfl (aa (vs:=pK s.L) (.tail _ (.head _)) (by rw [Nat.zero_add,Nat.mul_one]; exact wv (by omega))) ?_)
  refine Rn [37] fun b140 hb140=>?_
  obtain rfl:b140=false:=hb140.trans (decide_eq_false (fun q=>q hfe))
  refine Rn [0,47] ?_
  refine cz rfl rfl rfl rfl rfl (aW u3 rfl rfl (aa (vs:=eN ⟨j,p,f⟩) (off:=2) (v:=Vi f.al) (.head _) rfl)) ?_
  refine Rn [47] ?_
  refine cz rfl rfl rfl rfl rfl (aW u3 rfl rfl (aa (vs:=eN ⟨j,p,f⟩) (off:=3) (v:=Vi f.sp) (.head _) rfl)) ?_
  refine Rn [47] ?_
  refine cz rfl rfl rfl rfl rfl (aW u3 rfl rfl (aa (vs:=eN ⟨j,p,f⟩) (off:=4) (v:=Vi f.en) (.head _) rfl)) ?_
  refine Rn [105,47,50,29] ?_
  refine dc (v:=Vi f.free) rfl rfl rfl rfl rfl Tryz.func31 Zk rfl (fun w1 hw1=>by
   have h:=yi (l1:=(Bk p15 (eN ⟨j,p,f⟩) 71)::[(Bk p9 (pK s.L) 69),(Bk p6 [Pt y.x.pO,Pt y.x.pF,Pt y.pR] 64),(p3,Obj.cells #[Vi q0,Vi q1] 61)]) (L:=[]) hw1 hg (id:=(i:Nat)) hid
   rw [show gb s.fs (i:Nat)=f.free from by unfold gb; rw [hlf]] at h; exact h) ?_
  refine Rn [105,79] fun b154 hb154=>?_
  obtain rfl:b154=false:=hb154.trans (decide_eq_false (by unfold FSt.free; omega))
  refine Rn [25] fun b155 hb155=>?_
  obtain rfl:b155=false:=hb155
  refine Rn [0,47,50,29] ?_
  refine dc (v:=Vi f.free) rfl rfl rfl rfl rfl Tryz.func31 Zk rfl (fun w1 hw1=>by
   have h:=yi (l1:=(Bk p15 (eN ⟨j,p,f⟩) 71)::[(Bk p9 (pK s.L) 69),(Bk p6 [Pt y.x.pO,Pt y.x.pF,Pt y.pR] 64),(p3,Obj.cells #[Vi q0,Vi q1] 61)]) (L:=[]) hw1 hg (id:=(i:Nat)) hid
   rw [show gb s.fs (i:Nat)=f.free from by unfold gb; rw [hlf]] at h; exact h) ?_
  refine Rn [76] fun b161 hb161=>?_
  obtain rfl:b161=false:=hb161.trans (decide_eq_false (by omega))
  refine Rn [25] fun b162 hb162=>?_
  obtain rfl:b162=false:=hb162
  refine Rn [2,10] (Aw (fun hc162=>?_) fun hc162=>?_)
  ·cases hc162
  refine Rn [45,27,17,18,0,26,1,13] ?_
  exact aJ (i+1) ⟨by omega,by omega⟩ (by show 4 - (i+1) < 4 - i; omega) Zu (fun w1 h=>h.less Ls (fun _ h=>.tail _ h))
 refine Rn [34,19,19,35,17,3,0,1,2,6] ?_
 refine aw rfl rfl (fun w' hm=>⟨?_,hm.b⟩)
 rfl
open Go.RowKit Go.PK
theorem d_chg (s:ByteArray) (q0 q1:Int) (w:World) (hs:s.size≤200000000) (hq0:aj q0) :
  Calls Tryz.prog 32 #[.string s,.agg #[Vi q0,Vi q1]] w fun e w'=>∃ t:ByteArray,e=.returned (.string t)∧Later w w'∧t.size≤s.size:=by
 refine enter Tryz.func32 rfl Tryz.ntmps32 rfl ?_
 refine Rn [3,36,1,2,5,3,0,99,2,10] fun p3 b7 hb7=>Aw (fun hc7=>?_) fun hc7=>?_
 ·have hs0:s=⟨#[]⟩:=by rw [hb7] at hc7; simpa using hc7
  refine Rn [3,0,1,2,6,8] ?_
  exact aw rfl rfl (fun w' hm=>⟨s,rfl,hm.b,Nat.le_refl _⟩)
 have hs0:0 < s.size:=by
  rw [hb7] at hc7
  have h1:¬s=⟨#[]⟩:=by simpa using hc7
  rcases Nat.eq_zero_or_pos s.size with h | h
  ·exact absurd (ByteArray.ext (Array.eq_empty_of_size_eq_zero h)) h1
  exact h
 obtain ⟨k,hk,hks⟩:∃ k:Nat,q0%(s.size:Int)=(k:Int)∧k < s.size:=⟨(q0%(s.size:Int)).toNat,by have:=Int.emod_nonneg q0 (b:=(s.size:Int)) (by omega); omega,by have:=Int.emod_lt_of_pos q0 (b:=(s.size:Int)) (by omega); have:=Int.emod_nonneg q0 (b:=(s.size:Int)) (by omega); omega⟩
 refine Rn [23] ?_
 refine Xv rfl (bp (j:=0) (off':=0) zu cT rfl rfl Zo rfl) ?_
 refine Rn [51,0,53] ?_
 refine Xc (v:=Vi (k:Nat)) rfl Tryz.func43 rfl (fun w1 hw1=>by rw [← hk]; exact ix q0 s.size w1 hq0 (by omega)) ?_
 refine Rn [1,2,5] ?_
 obtain ⟨y4,hy4⟩:∃ y,s.extract 0 k=y:=⟨_,rfl⟩
 obtain ⟨y5,hy5⟩:∃ y,s.extract (k+1) s.size=y:=⟨_,rfl⟩
 have e1:(⟨[rG q1].toArray⟩:ByteArray).size=1:=rfl
 have z4:y4.size=k:=by rw [← hy4,ByteArray.size_extract]; omega
 have z5:y5.size=s.size - (k+1):=by rw [← hy5,ByteArray.size_extract]; omega
 have e4:(y4++⟨[rG q1].toArray⟩:ByteArray).size=k+1:=by rw [ByteArray.size_append,e1,z4]
 refine ew 15 [(true,0),(true,1),(true,2),(true,3),(true,4),(true,5),(true,9),(true,10),(true,11),(true,12),(false,6),(true,7),(true,8),(true,13),(true,14)] Zk Zk ?_
 refine Rn [0,0] ?_
 refine Xv (v:=Value.string y4) rfl (by rw [← hy4]; exact iF u9 rfl rfl (by omega)) (Xv rfl (bp (j:=1) (off':=1) zu cT rfl rfl Zo rfl) ?_)
 refine Rn [51] ?_
 refine Xv (v:=Value.int .u8 (((rG q1).toNat:Nat):Int)) rfl (by rw [← yu]; exact me u3 u5 rfl) ?_
 refine Rn [0,0] ?_
 refine Xv rfl (bg (c:=((k+1:Nat):Int)) rfl rfl (by omega) (by omega)) (Xv (v:=Value.string y5) rfl (by rw [← hy5]; exact jg u9 rfl rfl (by omega)) ?_)
 refine ac (cs:=[Value.int .u8 (((rG q1).toNat:Nat):Int)]) rfl rfl rfl jU lq vk rfl rfl rfl ?_
 intro p20
 refine Xv (v:=Value.string ⟨[rG q1].toArray⟩) rfl (ji [rG q1] jU u5 u9 rfl rfl (fun j hj=>aa (vs:=[Value.int .u8 (((rG q1).toNat:Nat):Int)]) (.head _) (by have h0:j=0:=(by simpa using hj); subst h0; rfl))) (Xv rfl (cK rfl rfl (by rw [e1]; omega)) (Xv rfl (cK rfl rfl (by rw [e4]; omega)) ?_))
 refine Rn [1,2,6] ?_
 exact aw rfl rfl (fun w' hm=>⟨_,rfl,hm.b,by rw [ByteArray.size_append,e4,z5]; omega⟩)
theorem lawBytes {A0:Option Addr} {c0:Nat} {cs:List Ac4} (w:World) (hcs:ab rn (fun _=>True) w (.slice A0 cs.length c0) cs) {q0 q1:Int} {raw:ByteArray} (hraw:raw.size≤1048576) (hq0:aj q0) (hq1:aj q1) (hL:LD w) :
  Calls Tryz.prog 6 #[Value.slice A0 cs.length c0,.agg #[Vi q0,Vi q1],.string raw] w fun e w'=>e=.returned (.bool (true))∧Later w w':=by
 refine enter Tryz.func6 rfl Tryz.ntmps6 rfl ?_
 refine Rn [3,36,1,9] fun p4=>?_
 refine Xh rfl Tryz.func10 rfl (fun w1 hw1=>wk w1 (hL.later hw1.b)) fun b14 hb14=>?_
 obtain rfl:b14=true:=hb14
 refine Rn [1,9] ?_
 refine fq (τ:=Jx×Jq) (fun u=>.tuple #[.agg [Pt u.1.x.pO,Pt u.1.x.pF,Pt u.1.pR].toArray,.bool true]) (fun u=>JG (300%5000) u.1 (min (max 50 0) 1000000) (⟨[(⟨1,0,⟨20000,0,0⟩⟩:FG),⟨2,1,⟨9000,0,0⟩⟩,⟨3,1,⟨(300%5000),0,0⟩⟩],(min (max 50 0) 1000000),[]⟩:SG) (⟨[(⟨1,0,⟨20000,0,0⟩⟩:FG),⟨2,1,⟨9000,0,0⟩⟩,⟨3,1,⟨(300%5000),0,0⟩⟩],(min (max 50 0) 1000000),[]⟩:SG) u.2) (fun u=>([]++u.1.own (min (max 50 0) 1000000) (⟨[(⟨1,0,⟨20000,0,0⟩⟩:FG),⟨2,1,⟨9000,0,0⟩⟩,⟨3,1,⟨(300%5000),0,0⟩⟩],(min (max 50 0) 1000000),[]⟩:SG) u.2 [])++[(p4,Obj.cells #[Vi q0,Vi q1] 61)]) rfl rfl rfl Tryz.func28 Zk rfl (fun w1 hw1=>(tc 300 50 (by unfold aj; decide) w1).mono fun e w2 ⟨u,h1,h2,h3⟩=>⟨u,h1,h3.b,h2,hw1.join2 h3⟩) ?_
 rintro ⟨y,z0⟩ hg0
 dsimp only at hg0
 refine Rn [0,20,48] fun b18 hb18=>?_
 obtain rfl:b18=true:=hb18
 refine Rn [28,32,1,2,5,3,0,43] fun p8 b20 hb20=>?_
 obtain rfl:b20=false:=hb20
 refine Rn [2,10] (Aw (fun hc20=>?_) fun hc20=>?_)
 ·cases hc20
 refine Rn [16,5,5] ?_
 refine dY (own':=(Bk p8 [Pt y.x.pO,Pt y.x.pF,Pt y.pR] 64)::(p4,Obj.cells #[Vi q0,Vi q1] 61)::y.own (min (max 50 0) 1000000) (⟨[(⟨1,0,⟨20000,0,0⟩⟩:FG),⟨2,1,⟨9000,0,0⟩⟩,⟨3,1,⟨(300%5000),0,0⟩⟩],(min (max 50 0) 1000000),[]⟩:SG) z0 []) (ro':=[(w,fun _=>True)]) (fun w1 h=>h.perm (.cons _ (List.perm_append_comm (l₁:=y.own (min (max 50 0) 1000000) (⟨[(⟨1,0,⟨20000,0,0⟩⟩:FG),⟨2,1,⟨9000,0,0⟩⟩,⟨3,1,⟨(300%5000),0,0⟩⟩],(min (max 50 0) 1000000),[]⟩:SG) z0 []) (l₂:=[(p4,Obj.cells #[Vi q0,Vi q1] 61)])))) ?_
 refine Rn [18,1,2,14] ?_
 refine aO (σ:=Nat×SG×Jq) (fun u=>u.1≤cs.length∧JG (300%5000) y (min (max 50 0) 1000000) u.2.1 u.2.1 u.2.2) (fun u=>[(0,Value.slice A0 cs.length c0),(2,Value.string raw),(4,Pt p4),(7,Value.bool true),(8,Pt p8),(10,Vi (u.1:Nat))]) (fun u=>(Bk p8 [Pt y.x.pO,Pt y.x.pF,Pt y.pR] 64)::(p4,Obj.cells #[Vi q0,Vi q1] 61)::y.own (min (max 50 0) 1000000) u.2.1 u.2.2 []) (fun u=>[(w,fun _=>True)]) (fun u=>cs.length - u.1) ((0,(⟨[(⟨1,0,⟨20000,0,0⟩⟩:FG),⟨2,1,⟨9000,0,0⟩⟩,⟨3,1,⟨(300%5000),0,0⟩⟩],(min (max 50 0) 1000000),[]⟩:SG),z0)) (⟨Nat.zero_le _,hg0⟩) (aC Zu (fun _ h=>h)) ?_
 rintro ⟨k,s,z⟩ ⟨hkL,hg⟩
 refine Rn [144] ?_
 dsimp only at hkL hg
 refine Rn [5,3,0,0,31,24,0,21,72,30,2,10] fun b24 hb24 b27 hb27 b28 hb28=>Aw (fun hc28=>?_) fun hc28=>?_
 ·simp only [hb28,hb27,hb24,Qz,ne_eq] at hc28
  have hk:k < cs.length:=by omega
  obtain ⟨b0,o0,hA0,hD0,hcell,hok⟩:=wu hcs hk
  obtain ⟨ik,ia,ib,ic⟩:=hok
  refine Rn [16,5,14] ?_
  refine cL ([(Bk p8 [Pt y.x.pO,Pt y.x.pF,Pt y.pR] 64)]) 6 (.flt 0 (.flt 1 (.flt 2 (.flt 3 (.flt 4 (.gr 5 .done .nil)))))) (.cons_cons _ (List.nil_sublist _)) Zk Zk ?_
  refine g9 rfl rfl (bS (e:=64) (fz:=(0,0)) (cs:=[Pt y.x.pO,Pt y.x.pF,Pt y.pR].toArray) u64 rfl rfl (.head _) rQ) (g9 rfl rfl (eC rfl) (g9 rfl rfl (eC rfl) (g9 rfl rfl (ae u60 tJ (congrArg (fun A=>some (Value.slice A cs.length c0)) hA0) rfl (by omega) rfl) (g9 rfl rfl (bj (vs:=cs[k].cells) u42 rfl tJ rfl (fun i hi=>an (.head _) trivial (hcell i hi))) ?_))))
  refine k_gr ?_ k_nil
  refine gB (fun (u:Int×SG×Jq) v _ _=>v=.tuple #[Vi u.1,Vi u.1]∧(u.1≠0→u.2.1=s)∧JG (300%5000) y (min (max 50 0) 1000000) u.2.1 u.2.1 u.2.2) (fun u=>(Bk p8 [Pt y.x.pO,Pt y.x.pF,Pt y.pR] 64)::(p4,Obj.cells #[Vi q0,Vi q1] 61)::y.own (min (max 50 0) 1000000) u.2.1 u.2.2 []) rfl rfl Tryz.func29 Zk rfl (fun w1 hw1=>(d_do (l1:=[(Bk p8 [Pt y.x.pO,Pt y.x.pF,Pt y.pR] 64),(p4,Obj.cells #[Vi q0,Vi q1] 61)]) (L:=[]) hw1 hg (.head _) hL cs[k].k cs[k].a cs[k].b cs[k].c ik ia ib ic).mono fun e w2 ⟨u,h1,h2,h3,h4⟩=>⟨_,h1,u,⟨rfl,h2,h3⟩,h4⟩) ?_
  rintro _ ⟨ec,s',z'⟩ wa wb _ ⟨rfl,herr,hg'⟩ _
  dsimp only at herr hg'
  refine Ze ?_
  refine k_end (.cons_cons _ (List.nil_sublist _)) (fun _ h=>List.mem_cons_of_mem _ h) ?_
  refine k_done ?_
  refine Rn [13,27,17,18,0,26,1,13] ?_
  exact aJ (k+1,s',z') ⟨hk,hg'⟩ (by simp only; omega) Zu (fun w1 h=>h.less (.refl _) (fun _ h=>.tail _ h))
 refine Rn [34,19,19,35,17,3] ?_
 refine Xv rfl (bp (j:=0) (off':=0) zu cT rfl rfl Zo rfl) ?_
 refine Rn [51] ?_
 refine Xv rfl (bp (j:=1) (off':=1) zu cT rfl rfl Zo rfl) ?_
 refine Rn [51] ?_
 refine Xv rfl (aH (places:=[(0,1),(1,1),(2,1),(3,1)]) u42 zr42 Zk rfl rfl) ?_
 refine Rn [28,32,2,5] fun p11=>?_
 have i00:aj (0:Int):=by unfold aj; decide
 refine dY (own':=(Bk p11 [Vi 0,Vi q0,Vi q1,Vi 0] 42)::(Bk p8 [Pt y.x.pO,Pt y.x.pF,Pt y.pR] 64)::(p4,Obj.cells #[Vi q0,Vi q1] 61)::y.own (min (max 50 0) 1000000) s z []) (ro':=[(w,fun _=>True)]) (fun w1 h=>h) ?_
 refine ew 25 [(true,0),(true,1),(true,2),(true,3),(true,5),(true,7),(true,8),(true,9),(true,11),(true,13),(true,14),(true,15),(true,17),(true,18),(true,19),(true,21),(false,4),(false,6),(false,10),(false,12),(false,16),(false,20),(true,22),(false,23),(true,24)] Zk Zk ?_
 refine Rn [0,4,7,39] ?_
 refine Xv rfl (bS (e:=61) (fz:=(0,0)) (cs:=#[Vi q0,Vi q1]) zu rfl rfl (.tail _ (.tail _ (.head _))) sz61) ?_
 refine Rn [4,7,39] ?_
 refine Xv rfl (bS (e:=61) (fz:=(0,0)) (cs:=#[Vi q0,Vi q1]) zu rfl rfl (.tail _ (.tail _ (.head _))) sz61) ?_
 refine Rn [4,7,39,4,7,39,0] ?_
 refine Xd (R:=fun v wa wb=>∃ t:ByteArray,v=.string t∧t.size≤150000000) rfl Tryz.func33 rfl (fun w1 hw1=>(l8 (l1:=[(Bk p11 [Vi 0,Vi q0,Vi q1,Vi 0] 42),(Bk p8 [Pt y.x.pO,Pt y.x.pF,Pt y.pR] 64),(p4,Obj.cells #[Vi q0,Vi q1] 61)]) (L:=[]) hw1 hg 0 q0 q1 0 hq0 hq1 i00).mono fun e w2 ⟨t,h1,h2,h3⟩=>⟨_,h1,h2,t,rfl,h3⟩) fun v46 wa46 wb46 hm46 hl46 hR46=>?_
 obtain ⟨t46,rfl,ht46⟩:=hR46
 refine Xd (R:=fun v wa wb=>∃ t:ByteArray,v=.string t∧t.size≤150000000) rfl Tryz.func32 rfl (fun w1 hw1=>(d_chg t46 q0 q1 w1 (Nat.le_trans ht46 (by decide)) hq0).mono fun e w2 ⟨t,h1,h2,h3⟩=>⟨_,h1,h2,t,rfl,Nat.le_trans h3 ht46⟩) fun v48 wa48 wb48 hm48 hl48 hR48=>?_
 obtain ⟨t48,rfl,ht48⟩:=hR48
 refine Xd (R:=fun v wa wb=>∃ t:ByteArray,v=.string t∧t.size≤150000000) rfl Tryz.func34 rfl (fun w1 hw1=>(nI (l1:=[(Bk p11 [Vi 0,Vi q0,Vi q1,Vi 0] 42),(Bk p8 [Pt y.x.pO,Pt y.x.pF,Pt y.pR] 64),(p4,Obj.cells #[Vi q0,Vi q1] 61)]) (L:=[]) hw1 hg 0 q0 q1 0 hq0 hq1 i00).mono fun e w2 ⟨t,h1,h2,h3⟩=>⟨_,h1,h2,t,rfl,h3⟩) fun v52 wa52 wb52 hm52 hl52 hR52=>?_
 obtain ⟨t52,rfl,ht52⟩:=hR52
 refine Xd (R:=fun v wa wb=>∃ t:ByteArray,v=.string t∧t.size≤150000000) rfl Tryz.func32 rfl (fun w1 hw1=>(d_chg t52 q0 q1 w1 (Nat.le_trans ht52 (by decide)) hq0).mono fun e w2 ⟨t,h1,h2,h3⟩=>⟨_,h1,h2,t,rfl,Nat.le_trans h3 ht52⟩) fun v54 wa54 wb54 hm54 hl54 hR54=>?_
 obtain ⟨t54,rfl,ht54⟩:=hR54
 refine Xd (R:=fun v wa wb=>∃ t:ByteArray,v=.string t∧t.size≤150000000) rfl Tryz.func34 rfl (fun w1 hw1=>(nI (l1:=[(Bk p11 [Vi 0,Vi q0,Vi q1,Vi 0] 42),(Bk p8 [Pt y.x.pO,Pt y.x.pF,Pt y.pR] 64),(p4,Obj.cells #[Vi q0,Vi q1] 61)]) (L:=[]) hw1 hg 0 q0 q1 0 hq0 hq1 i00).mono fun e w2 ⟨t,h1,h2,h3⟩=>⟨_,h1,h2,t,rfl,h3⟩) fun v58 wa58 wb58 hm58 hl58 hR58=>?_
 obtain ⟨t58,rfl,ht58⟩:=hR58
 refine Xd (R:=fun v wa wb=>∃ t:ByteArray,v=.string t∧t.size≤150000000) rfl Tryz.func33 rfl (fun w1 hw1=>(l8 (l1:=[(Bk p11 [Vi 0,Vi q0,Vi q1,Vi 0] 42),(Bk p8 [Pt y.x.pO,Pt y.x.pF,Pt y.pR] 64),(p4,Obj.cells #[Vi q0,Vi q1] 61)]) (L:=[]) hw1 hg 0 q0 q1 0 hq0 hq1 i00).mono fun e w2 ⟨t,h1,h2,h3⟩=>⟨_,h1,h2,t,rfl,h3⟩) fun v62 wa62 wb62 hm62 hl62 hR62=>?_
 obtain ⟨t62,rfl,ht62⟩:=hR62
 refine Xv rfl (cK rfl rfl (by omega)) ?_
 refine ac (cs:=[Value.string raw,Value.string t48,Value.string t54,Value.string t58,Value.string (t62++raw),Value.string ⟨#[]⟩]) rfl rfl rfl ez gG kA rfl rfl rfl ?_
 intro p65
 refine Rn [1,2,5,5] ?_
 obtain ⟨ts,hts⟩:∃ q:List ByteArray,[raw,t48,t54,t58,t62++raw,⟨#[]⟩]=q:=⟨_,rfl⟩
 have htl:ts.length=6:=by rw [← hts]; rfl
 have htz:∀ t∈ts,t.size≤200000000:=by
  rw [← hts]
  simp only [List.forall_mem_cons,List.not_mem_nil,false_imp_iff,implies_true,and_true]
  exact ⟨by omega,by omega,by omega,by omega,by rw [ByteArray.size_append]; omega,by decide⟩
 refine dY (own':=(Bk p65 (ts.map Value.string) 9)::(Bk p11 [Vi 0,Vi q0,Vi q1,Vi 0] 42)::(Bk p8 [Pt y.x.pO,Pt y.x.pF,Pt y.pR] 64)::(p4,Obj.cells #[Vi q0,Vi q1] 61)::y.own (min (max 50 0) 1000000) s z []) (ro':=[(w,fun _=>True)]) (fun w1 h=>by rw [← hts]; exact h.less (.refl _) (fun q hq=>by rw [List.mem_singleton.1 hq]; simp)) ?_
 refine Rn [18,1,2,14] ?_
 refine aO (σ:=Nat×SG×Jq) (fun u=>u.1≤6∧JG (300%5000) y (min (max 50 0) 1000000) u.2.1 u.2.1 u.2.2) (fun u=>[(7,Value.bool true),(8,Pt p8),(12,Value.slice (some ⟨p65,0,none⟩) 6 6),(13,Vi (u.1:Nat))]) (fun u=>(Bk p65 (ts.map Value.string) 9)::(Bk p11 [Vi 0,Vi q0,Vi q1,Vi 0] 42)::(Bk p8 [Pt y.x.pO,Pt y.x.pF,Pt y.pR] 64)::(p4,Obj.cells #[Vi q0,Vi q1] 61)::y.own (min (max 50 0) 1000000) u.2.1 u.2.2 []) (fun u=>[(w,fun _=>True)]) (fun u=>6 - u.1) ((0,s,z)) (⟨Nat.zero_le _,hg⟩) (aC Zu (fun _ h=>h)) ?_
 rintro ⟨i,s,z⟩ ⟨hiL,hg⟩
 refine Rn [144] ?_
 dsimp only at hiL hg
 refine Rn [5,3,0,0,31,24,2,10] fun b69 hb69=>Aw (fun hc69=>?_) fun hc69=>?_
 ·simp only [hb69,Qz,ne_eq] at hc69
  have hi:i < 6:=by omega
  have hti:i < ts.length:=by omega
  obtain ⟨t,ht0⟩:∃ q,ts[i]=q:=⟨_,rfl⟩
  have htz1:t.size≤200000000:=by rw [← ht0]; exact htz _ (List.getElem_mem hti)
  have hcell:(ts.map Value.string)[i]?=some (Value.string t):=by rw [List.getElem?_map,List.getElem?_eq_getElem hti,ht0]; rfl
  refine Rn [16,5,14,5] ?_
  refine cL ([(Bk p65 (ts.map Value.string) 9),(Bk p11 [Vi 0,Vi q0,Vi q1,Vi 0] 42),(Bk p8 [Pt y.x.pO,Pt y.x.pF,Pt y.pR] 64)]) 37 (.flt 0 (.flt 1 (.flt 2 (.flt 3 (.flt 4 (.flt 5 (.flt 7 (.flt 8 (.flt 9 (.flt 10 (.flt 11 (.flt 12 (.gr 6 (.gr 13 (.flt 14 (.flt 15 (.flt 16 (.flt 17 (.flt 18 (.flt 19 (.flt 20 (.flt 21 (.flt 23 (.flt 24 (.flt 25 (.flt 26 (.flt 27 (.flt 28 (.gr 22 (.gr 29 (.flt 30 (.flt 31 (.flt 32 (.flt 33 (.gr 34 (.flt 35 (.flt 36 .done)) .nil))))) .nil) .nil))))))))))))))) .nil) .nil))))))))))))) (.cons_cons _ (.cons_cons _ (.cons_cons _ (List.nil_sublist _)))) Zk Zk ?_
  refine Rn [41,49,44,44,125] ?_
  refine dq rfl rfl (aW u9 rfl rfl (aa (vs:=ts.map Value.string) (v:=Value.string t) (.head _) (by rw [Nat.zero_add,Nat.mul_one]; exact hcell))) ?_
  refine Rn [41,49,44,44,125] ?_
  refine dq rfl rfl (aW u9 rfl rfl (aa (vs:=ts.map Value.string) (v:=Value.string t) (.head _) (by rw [Nat.zero_add,Nat.mul_one]; exact hcell))) ?_
  refine Rn [42] ?_
  refine aI (τ:=Jq) (v:=Vi (ah s (bn t).1 (bn t).2).1) (fun z=>JG (300%5000) y (min (max 50 0) 1000000) (ah s (bn t).1 (bn t).2).2 s z) (fun z=>(Bk p65 (ts.map Value.string) 9)::(Bk p11 [Vi 0,Vi q0,Vi q1,Vi 0] 42)::(Bk p8 [Pt y.x.pO,Pt y.x.pF,Pt y.pR] 64)::(p4,Obj.cells #[Vi q0,Vi q1] 61)::y.own (min (max 50 0) 1000000) s z []) rfl rfl Tryz.func13 Zk rfl (fun w1 hw1=>mM (l1:=[(Bk p65 (ts.map Value.string) 9),(Bk p11 [Vi 0,Vi q0,Vi q1,Vi 0] 42),(Bk p8 [Pt y.x.pO,Pt y.x.pF,Pt y.pR] 64),(p4,Obj.cells #[Vi q0,Vi q1] 61)]) (L:=[]) hw1 hg (.head _) hL t htz1) fun z78 hg78=>?_
  refine Ze ?_
  refine dK (.cons_cons _ (.cons_cons _ (.cons_cons _ (List.nil_sublist _)))) ?_
  refine Rn [42] ?_
  refine aI (τ:=Jq) (v:=Vi (ah s (bn t).1 (bn t).2).1) (fun z=>JG (300%5000) y (min (max 50 0) 1000000) (ah s (bn t).1 (bn t).2).2 (ah s (bn t).1 (bn t).2).2 z) (fun z=>(Bk p65 (ts.map Value.string) 9)::(Bk p11 [Vi 0,Vi q0,Vi q1,Vi 0] 42)::(Bk p8 [Pt y.x.pO,Pt y.x.pF,Pt y.pR] 64)::(p4,Obj.cells #[Vi q0,Vi q1] 61)::y.own (min (max 50 0) 1000000) (ah s (bn t).1 (bn t).2).2 z []) rfl rfl Tryz.func35 Zk rfl (fun w1 hw1=>mN (l1:=[(Bk p65 (ts.map Value.string) 9),(Bk p11 [Vi 0,Vi q0,Vi q1,Vi 0] 42),(Bk p8 [Pt y.x.pO,Pt y.x.pF,Pt y.pR] 64),(p4,Obj.cells #[Vi q0,Vi q1] 61)]) (L:=[]) hw1 hg78 t htz1) fun z85 hg85=>?_
  refine Ze ?_
  refine dK (.cons_cons _ (.cons_cons _ (.cons_cons _ (List.nil_sublist _)))) ?_
  refine Rn [131] fun b86 hb86=>?_
  obtain rfl:b86=false:=hb86.trans (decide_eq_false (fun q=>q rfl))
  refine Rn [44] ?_
  refine fk rfl rfl rfl rfl (jM (off':=0) u64 rfl sz27 (by decide) rfl rfl) (fk rfl rfl rfl rfl (aW u27 rfl rfl (aa (vs:=[Pt y.x.pO,Pt y.x.pF,Pt y.pR]) (off:=0) (v:=Pt y.x.pO) (.tail _ (.tail _ (.head _))) rfl)) (fk rfl rfl rfl rfl (eC rfl) (fk rfl rfl rfl rfl (eC rfl) (fk rfl rfl rfl rfl (ae ez gG rfl rfl Zo rfl) (fk rfl rfl rfl rfl (aW u9 rfl rfl (aa (vs:=ts.map Value.string) (v:=Value.string t) (.head _) (by rw [Nat.zero_add,Nat.mul_one]; exact hcell))) (fk rfl rfl rfl rfl (jM (off':=2) u64 rfl sz62 (by decide) rfl rfl) (fk rfl rfl rfl rfl (aW u62 rfl rfl (aa (vs:=[Pt y.x.pO,Pt y.x.pF,Pt y.pR]) (off:=2) (v:=Pt y.pR) (.tail _ (.tail _ (.head _))) rfl)) ?_)))))))
  refine fk rfl rfl rfl rfl (eC rfl) (fk rfl rfl rfl rfl (eC rfl) (fk rfl rfl rfl rfl (ae ez gG rfl rfl Zo rfl) (fk rfl rfl rfl rfl (aW u9 rfl rfl (aa (vs:=ts.map Value.string) (v:=Value.string t) (.head _) (by rw [Nat.zero_add,Nat.mul_one]; exact hcell))) ?_)))
  refine Rn [42] ?_
  refine lH (τ:=Jq) (v:=Vi (aF (ah s (bn t).1 (bn t).2).2 (aM t).1 (aM t).2).1) (fun z=>JG (300%5000) y (min (max 50 0) 1000000) (aF (ah s (bn t).1 (bn t).2).2 (aM t).1 (aM t).2).2 (ah s (bn t).1 (bn t).2).2 z) (fun z=>(Bk p65 (ts.map Value.string) 9)::(Bk p11 [Vi 0,Vi q0,Vi q1,Vi 0] 42)::(Bk p8 [Pt y.x.pO,Pt y.x.pF,Pt y.pR] 64)::(p4,Obj.cells #[Vi q0,Vi q1] 61)::y.own (min (max 50 0) 1000000) (ah s (bn t).1 (bn t).2).2 z []) rfl rfl rfl rfl Tryz.func15 Zk rfl (fun w1 hw1=>lk (l1:=[(Bk p65 (ts.map Value.string) 9),(Bk p11 [Vi 0,Vi q0,Vi q1,Vi 0] 42),(Bk p8 [Pt y.x.pO,Pt y.x.pF,Pt y.pR] 64),(p4,Obj.cells #[Vi q0,Vi q1] 61)]) (L:=[]) hw1 hg85 (.head _) hL t htz1) fun z94 hg94=>?_
  refine Ze ?_
  refine dK (.cons_cons _ (.cons_cons _ (.cons_cons _ (List.nil_sublist _)))) ?_
  refine Rn [42] ?_
  refine lH (τ:=Jq) (v:=Vi (aF (ah s (bn t).1 (bn t).2).2 (aM t).1 (aM t).2).1) (fun z=>JG (300%5000) y (min (max 50 0) 1000000) (aF (ah s (bn t).1 (bn t).2).2 (aM t).1 (aM t).2).2 (aF (ah s (bn t).1 (bn t).2).2 (aM t).1 (aM t).2).2 z) (fun z=>(Bk p65 (ts.map Value.string) 9)::(Bk p11 [Vi 0,Vi q0,Vi q1,Vi 0] 42)::(Bk p8 [Pt y.x.pO,Pt y.x.pF,Pt y.pR] 64)::(p4,Obj.cells #[Vi q0,Vi q1] 61)::y.own (min (max 50 0) 1000000) (aF (ah s (bn t).1 (bn t).2).2 (aM t).1 (aM t).2).2 z []) rfl rfl rfl rfl Tryz.func36 Zk rfl (fun w1 hw1=>ll (l1:=[(Bk p65 (ts.map Value.string) 9),(Bk p11 [Vi 0,Vi q0,Vi q1,Vi 0] 42),(Bk p8 [Pt y.x.pO,Pt y.x.pF,Pt y.pR] 64),(p4,Obj.cells #[Vi q0,Vi q1] 61)]) (L:=[]) hw1 hg94 t htz1) fun z101 hg101=>?_
  refine Ze ?_
  refine dK (.cons_cons _ (.cons_cons _ (.cons_cons _ (List.nil_sublist _)))) ?_
  refine ym rfl rfl rfl rfl (tu rfl rfl) fun b102 hb102=>?_
  obtain rfl:b102=false:=hb102.trans (decide_eq_false (fun q=>q rfl))
  refine Rn [136] fun b103 hb103=>?_
  obtain rfl:b103=false:=hb103
  refine Rn [44] ?_
  refine fk rfl rfl rfl rfl (bS (e:=64) (fz:=(0,0)) (cs:=[Pt y.x.pO,Pt y.x.pF,Pt y.pR].toArray) u64 rfl rfl (.tail _ (.tail _ (.head _))) rQ) ?_
  refine Rn [42] ?_
  refine fL rfl rfl rfl rfl rfl Tryz.func37 Zk rfl (fun w1 hw1=>tn (l1:=[(Bk p65 (ts.map Value.string) 9),(Bk p11 [Vi 0,Vi q0,Vi q1,Vi 0] 42),(Bk p8 [Pt y.x.pO,Pt y.x.pF,Pt y.pR] 64),(p4,Obj.cells #[Vi q0,Vi q1] 61)]) (L:=[]) hw1 hg101) fun b106 hb106=>?_
  obtain rfl:b106=true:=hb106
  refine Ze ?_
  refine dK (.cons_cons _ (.cons_cons _ (.cons_cons _ (List.nil_sublist _)))) ?_
  refine ym rfl rfl rfl rfl (tt rfl) fun b107 hb107=>?_
  obtain rfl:b107=false:=hb107
  refine Rn [136] fun b108 hb108=>?_
  obtain rfl:b108=false:=hb108
  refine Rn [56,2,10] (Aw (fun hc108=>?_) fun hc108=>?_)
  ·cases hc108
  refine Rn [45,27,17,18,0,26,1,13] ?_
  exact aJ (i+1,(aF (ah s (bn t).1 (bn t).2).2 (aM t).1 (aM t).2).2,z101) ⟨hi,hg101⟩ (by simp only; omega) Zu (fun w1 h=>h)
 refine Rn [34,19,19,35,17,3,0,1,2,6] ?_
 refine aw rfl rfl (fun w' hm=>⟨?_,hm.b⟩)
 rfl
end Go.Proofs.YtifekogdhjabaaaGreatDoor
