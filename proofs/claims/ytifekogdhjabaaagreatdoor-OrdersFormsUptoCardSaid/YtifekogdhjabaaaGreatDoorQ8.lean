/- Of the proofs of YtifekogdhjabaaaGreatDoor: Zw Zx Zy Zz Va Vk Xx Xy Vd, put together. -/
import Derived.Test.YtifekogdhjabaaaGreatDoorQ7
import Derived.Test.YtifekogdhjabaaaGreatDoorQ3
import Derived.Test.YtifekogdhjabaaaGreatDoorQ2
import Derived.Test.YtifekogdhjabaaaGreatDoorQ5
import Derived.Lay
import Derived.LaidSub
import Derived.Lib.LaidTab
import Derived.Stop.LaidErr
import Derived.Deep.DeepHandedRow
import Derived.SevenTiedAt
import Derived.Test.YtifekogdhjabaaaGreatDoorQ1
import Derived.Test.YtifekogdhjabaaaGreatDoorQ4
import Derived.Test.YtifekogdhjabaaaGreatDoorQ6
set_option linter.unusedVariables false
set_option linter.unusedSimpArgs false
set_option maxRecDepth 100000
set_option maxHeartbeats 4000000

namespace Go.Proofs.YtifekogdhjabaaaGreatDoor
open Go.RowKit Go.PK
theorem apFP:(Tryz.prog.info? 126).map (fun j=>(j.zero,j.size,j.bytes))=some (some (.pointer none),1,8):=by kernel_rfl
theorem g_right {x:FM} (w:World) (hX:∀ i v,(cB x)[i]?=some v→w.cell? ⟨x.p,i,none⟩=some v) (hg:fgN x.g) :
  Calls Tryz.prog 102 #[Pt x.p] w fun e w'=>e=.returned (.bool (true))∧Later w w':=by
 obtain ⟨⟨g1,g2⟩,⟨g3,g4⟩,g5,g6,g7,g8⟩:=id hg
 refine enter Tryz.func102 rfl Tryz.ntmps102 rfl ?_
 refine Rn [3,1,2,5] ?_
 refine bc 66 ?_
 refine Rn [0,11,4,4] ?_
 refine Xl rfl u3 rfl (an (.head _) trivial (hX 0 _ rfl)) ?_
 refine Rn [60,0,21,59,22,22] fun b8 hb8=>?_
 refine Xi rfl rfl rfl (fun hg0=>by subst hg0; (try simp only [Qy]); exact aW u3 rfl rfl (an (.head _) trivial (hX 1 _ rfl))) ?_
 refine Rn [21,59,22,22] ?_
 refine Xi rfl rfl rfl (fun hg0=>by subst hg0; (try simp only [Qy]); exact aW u3 rfl rfl (an (.head _) trivial (hX 3 _ rfl))) ?_
 refine Rn [21,59,22,22] ?_
 refine Xi rfl rfl rfl (fun hg0=>by subst hg0; (try simp only [Qy]); exact aW u3 rfl rfl (an (.head _) trivial (hX 4 _ rfl))) ?_
 refine fV [] rfl rfl rfl rfl rfl (v:=Vi (min (min x.g.par x.g.s.sp) x.g.s.en)) (fun hg=>by obtain ⟨hg0,_⟩:=hg; subst hg0; (try simp only [Qy]); exact v_min3 rfl rfl rfl) ?_
 refine Rn [69,30,0,21,59,22,22] fun b26 hb26 b27 hb27=>?_
 refine Xi rfl rfl rfl (fun hg0=>by subst hg0; (try simp only [Qy]); exact aW u3 rfl rfl (an (.head _) trivial (hX 2 _ rfl))) ?_
 refine Rn [67,30,0,21,59,22,22] fun b34 hb34 b35 hb35=>?_
 refine Xi rfl rfl rfl (fun hg0=>by subst hg0; (try simp only [Qy]); exact aW u3 rfl rfl (an (.head _) trivial (hX 3 _ rfl))) ?_
 refine Rn [21,59,22,22] ?_
 refine Xi rfl rfl rfl (fun hg0=>by subst hg0; (try simp only [Qy]); exact aW u3 rfl rfl (an (.head _) trivial (hX 2 _ rfl))) ?_
 refine Rn [67,30,0,21,59,22,22] fun b47 hb47 b48 hb48=>?_
 refine Xi rfl rfl rfl (fun hg0=>by subst hg0; (try simp only [Qy]); exact aW u3 rfl rfl (an (.head _) trivial (hX 4 _ rfl))) ?_
 refine Rn [21,59,22,22] ?_
 refine Xi rfl rfl rfl (fun hg0=>by subst hg0; (try simp only [Qy]); exact aW u3 rfl rfl (an (.head _) trivial (hX 2 _ rfl))) ?_
 refine Rn [21,59,22,22] ?_
 refine Xi rfl rfl rfl (fun hg0=>by subst hg0; (try simp only [Qy]); exact aW u3 rfl rfl (an (.head _) trivial (hX 3 _ rfl))) ?_
 refine Rn [80,67,30,1,2,6] fun b66 hb66 b67 hb67=>?_
 refine aw rfl rfl (fun w' hm=>⟨?_,hm.b⟩)
 have:b67=true:=by rw [hb67,hb66,hb48,hb47,hb35,hb34,hb27,hb26,hb8]; simp; omega
 rw [this]
theorem g_cnt0 {x:FM} (w:World) (hX:∀ i v,(cB x)[i]?=some v→w.cell? ⟨x.p,i,none⟩=some v) (hB0:x.bel=.slice none 0 0) {p7:Nat} (h7:w.cell? ⟨p7,0,none⟩=some (Value.func (.func 150) #[] #[Pt p7])) :
  Calls Tryz.prog 150 #[Pt x.p,Pt p7] w fun e w'=>e=.returned (Vi (1))∧Later w w':=by
 have hx5:=hX 5 (Value.slice none 0 0) (by rw [← hB0]; rfl)
 refine enter Tryz.func150 rfl Tryz.ntmps150 rfl ?_
 refine Rn [3,1,9,1,2,5,3,0,11,4] ?_
 refine Xl rfl tN rfl (an (.head _) trivial hx5) ?_
 refine Rn [31,0,2,14] ?_
 refine aO (σ:=Nat) (fun k=>k≤0) (fun k=>[(0,Pt x.p),(1,Pt p7),(4,Vi ((k+1:Nat):Int)),(10,Value.slice none 0 0),(11,Vi 0),(12,Vi (k:Nat))]) (fun k=>[]) (fun k=>[(w,fun _=>True)]) (fun k=>0 - k) (0) ((Nat.zero_le _)) (aC Zu (fun _ h=>h)) ?_
 rintro k hkL
 refine Rn [3,24,2,5,12] fun b13 hb13=>Aw (fun hc13=>?_) fun hc13=>?_
 ·omega
 obtain rfl:k=0:=by omega
 refine Rn [34,19,19,35,17,3,0,1,2,6] ?_
 refine aw rfl rfl (fun w' hm=>⟨?_,hm.b⟩)
 rfl
theorem g_cnt2 {x:FM} (w:World) (hX:∀ i v,(cB x)[i]?=some v→w.cell? ⟨x.p,i,none⟩=some v) {b c:Nat} (hB0:x.bel=.slice (some ⟨b,0,none⟩) 2 c) (ys:Nat→FM) (hrow:∀ k,k < 2→w.cell? ⟨b,0+k,none⟩=some (Pt ((ys k).p))) (hY:∀ k,k < 2→∀ i v,(cB (ys k))[i]?=some v→w.cell? ⟨(ys k).p,i,none⟩=some v) (hB:∀ k,k < 2→(ys k).bel=.slice none 0 0) {p7:Nat} (h7:w.cell? ⟨p7,0,none⟩=some (Value.func (.func 150) #[] #[Pt p7])) :
  Calls Tryz.prog 150 #[Pt x.p,Pt p7] w fun e w'=>e=.returned (Vi (3))∧Later w w':=by
 have hx5:=hX 5 (Value.slice (some ⟨b,0,none⟩) 2 c) (by rw [← hB0]; rfl)
 refine enter Tryz.func150 rfl Tryz.ntmps150 rfl ?_
 refine Rn [3,1,9,1,2,5,3,0,11,4] ?_
 refine Xl rfl tN rfl (an (.head _) trivial hx5) ?_
 refine Rn [31,0,2,14] ?_
 refine aO (σ:=Nat) (fun k=>k≤2) (fun k=>[(0,Pt x.p),(1,Pt p7),(4,Vi ((k+1:Nat):Int)),(10,Value.slice (some ⟨b,0,none⟩) 2 c),(11,Vi 2),(12,Vi (k:Nat))]) (fun k=>[]) (fun k=>[(w,fun _=>True)]) (fun k=>2 - k) (0) ((Nat.zero_le _)) (aC Zu (fun _ h=>h)) ?_
 rintro k hkL
 refine Rn [3,24,2,5,12] fun b13 hb13=>Aw (fun hc13=>?_) fun hc13=>?_
 ·have hk:k < 2:=by omega
  refine Rn [16,5,14,3,46] ?_
  refine Xl rfl rS rfl (an (.head _) trivial (by rw [Nat.mul_one]; exact hrow k hk)) ?_
  refine Rn [1,2,18,0] ?_
  refine Xl rfl u162 rfl (an (.head _) trivial h7) (Xm ?_)
  refine nL (cap:=#[Pt p7]) (v:=Vi 1) rfl rfl rfl rfl Tryz.func150 Zk rfl (fun w1 hw1=>g_cnt0 (x:=ys k) w1 (fun i v hv=>an (.head _) trivial (hY k hk i v hv) w1 hw1) (hB k hk) (an (.head _) trivial h7 w1 hw1)) ?_
  refine Xv (v:=Vi ((k+1+1:Nat):Int)) rfl (bg (c:=((k+1+1:Nat):Int)) rfl rfl (by omega) (by omega)) ?_
  refine Rn [1,13,27,17,18,26,0,13] ?_
  exact aJ (k+1) hk (by show 2 - (k+1) < 2 - k; omega) Zu (fun _ h=>h)
 obtain rfl:k=2:=by omega
 refine Rn [34,19,19,35,17,3,0,1,2,6] ?_
 refine aw rfl rfl (fun w' hm=>⟨?_,hm.b⟩)
 rfl
theorem g_conn {w:World} {L:List (Nat×Obj)} {ro:List av} {pF mF p1 p2 p3:Nat} {es:Array MapEntry} {ck:Nat} {money:Int} {a b c:FSt} (hC:MapC Tryz.prog 3 es ck (cC (m3 a b c p1 p2 p3 (.slice none 0 0)))) (hm:Mem w ((Bk pF (bP mF money) 125)::(mF,Obj.map es ck)::(Bk p1 (cB ⟨⟨1,0,a⟩,p1,.slice none 0 0⟩) 130)::(Bk p2 (cB ⟨⟨2,1,b⟩,p2,.slice none 0 0⟩) 130)::(Bk p3 (cB ⟨⟨3,1,c⟩,p3,.slice none 0 0⟩) 130)::L) ro) :
  Calls Tryz.prog 103 #[Pt pF] w fun e w'=>e=.returned (.bool true)∧∃ R:ak,ag 1 R 2 [Pt p2,Pt p3]∧Mem w' ((Bk pF (bP mF money) 125)::(mF,Obj.map es ck)::(Bk p1 (cB ⟨⟨1,0,a⟩,p1,au R 2⟩) 130)::(Bk p2 (cB ⟨⟨2,1,b⟩,p2,.slice none 0 0⟩) 130)::(Bk p3 (cB ⟨⟨3,1,c⟩,p3,.slice none 0 0⟩) 130)::(aA 126 R++L)) ro:=by
 refine ay hm Tryz.func103 rfl Tryz.ntmps103 rfl ?_
 refine Rn [3,1,2,5,3,0,11,4,7] ?_
 refine fq (τ:=Nat) (fun Bm=>.func (.func 126) #[] #[Pt Bm]) (fun _=>True) (fun Bm=>[(Bm,Obj.cells #[.map (some mF)] 123)]++((Bk pF (bP mF money) 125)::(mF,Obj.map es ck)::(Bk p1 (cB ⟨⟨1,0,a⟩,p1,.slice none 0 0⟩) 130)::(Bk p2 (cB ⟨⟨2,1,b⟩,p2,.slice none 0 0⟩) 130)::(Bk p3 (cB ⟨⟨3,1,c⟩,p3,.slice none 0 0⟩) 130)::L)) rfl rfl rfl Tryz.func68 Zk rfl (fun w1 hw1=>(xR (some mF) w1).mono fun e w2 ⟨Bm,h1,h2,h3⟩=>⟨Bm,h1,h2,trivial,hw1.join2 h3⟩) fun Bm _=>?_
 refine Xd (R:=fun v wa wb=>ab i8 (fun b=>wa.heap.size≤b) wb v [1,2,3]) rfl Tryz.func65 rfl (fun w1 hw1=>(zU Bm mF w1 (aa (vs:=[.map (some mF)]) (.head _) rfl w1 hw1) (hw1.own_at _ (.tail _ (.tail _ (.head _)))) hC nH (by decide) (by decide) (fun n hn=>by unfold aj; simp at hn; omega)).mono fun e w2 ⟨v,h1,h2,h3⟩=>⟨v,h1,h2,h3⟩) fun v16 wa16 wb16 hm16 hl16 hR16=>?_
 obtain ⟨A16,c16,rfl,_⟩:=id hR16
 rw [show ([1,2,3]:List Int).length=3 from rfl] at hR16 ⊢
 refine Rn [31,0,2,14] ?_
 refine aO (σ:=Nat×ak) (fun z=>z.1≤3∧ag 1 z.2 (z.1 - 1) ([Pt p2,Pt p3].take (z.1 - 1))) (fun z=>[(0,Pt pF),(16,Value.slice A16 3 c16),(17,Vi 3),(18,Vi (z.1:Nat))]) (fun z=>(Bk pF (bP mF money) 125)::(mF,Obj.map es ck)::(Bk p1 (cB ⟨⟨1,0,a⟩,p1,au z.2 (z.1 - 1)⟩) 130)::(Bk p2 (cB ⟨⟨2,1,b⟩,p2,.slice none 0 0⟩) 130)::(Bk p3 (cB ⟨⟨3,1,c⟩,p3,.slice none 0 0⟩) 130)::(aA 126 z.2++L)) (fun z=>(wb16,a7 ((Bm,Obj.cells #[.map (some mF)] 123)::(Bk pF (bP mF money) 125)::(mF,Obj.map es ck)::(Bk p1 (cB ⟨⟨1,0,a⟩,p1,.slice none 0 0⟩) 130)::(Bk p2 (cB ⟨⟨2,1,b⟩,p2,.slice none 0 0⟩) 130)::(Bk p3 (cB ⟨⟨3,1,c⟩,p3,.slice none 0 0⟩) 130)::L))::ro) (fun z=>3 - z.1) ((0,none)) (⟨Nat.zero_le _,bG⟩) (aC Zu (fun _ h=>h.less Ls (fun _ h=>h))) ?_
 rintro ⟨k,R⟩ ⟨hkL,hR⟩
 refine Rn [144] ?_
 dsimp only at hkL hR
 refine Rn [3,24,2,5,12] fun b19 hb19=>Aw (fun hc19=>?_) fun hc19=>?_
 ·have hk:k < 3:=by omega
  refine Rn [16,5,14,5] ?_
  obtain rfl | rfl | rfl:k=0∨k=1∨k=2:=by omega
  ·obtain ⟨b0,o0,hA0,hD0,hc0,hin0⟩:=fW hR16 (k:=0) (by decide)
   refine Zr (Xv rfl (ae ij cT (congrArg (fun A=>some (Value.slice A 3 c16)) hA0) rfl (by decide) rfl) (Xl rfl u3 rfl (an (.head _) (fun q hq e=>by have:=hm16.lt hq; omega) (v:=Vi 1) (by rw [Nat.mul_one]; exact hc0)) ?_))
   refine Rn [1,9,0,11,4,7,0] ?_
   refine Xv (v:=Pt p1) rfl (cw dw (Maps.int_keyed u3) dZ rfl rfl (Maps.keyOf_int_mk u3 (by decide)) (cf (.tail _ (.head _))) hC.f rfl) ?_
   refine Rn [1,2,5,3,0,11,4,4] ?_
   refine Xl rfl u3 rfl (aa (vs:=cB ⟨⟨1,0,a⟩,p1,au R (0 - 1)⟩) (off:=1) (v:=Vi 0) (.tail _ (.tail _ (.head _))) rfl) ?_
   refine Rn [38] fun b33 hb33=>?_
   obtain rfl:b33=true:=hb33.trans (by decide)
   refine Rn [2,10] (Aw (fun hc33=>?_) fun hc33=>?_)
   ·refine Rn [34,19,35,17,18,26,0,13] ?_
    exact aJ (1,R) ⟨(show 1≤3 by decide),hR⟩ (show 3 - 1 < 3 - 0 by decide) Zu (fun _ h=>h)
   cases hc33
  ·obtain ⟨b0,o0,hA0,hD0,hc0,hin0⟩:=fW hR16 (k:=1) (by decide)
   refine Zr (Xv rfl (ae ij cT (congrArg (fun A=>some (Value.slice A 3 c16)) hA0) rfl (by decide) rfl) (Xl rfl u3 rfl (an (.head _) (fun q hq e=>by have:=hm16.lt hq; omega) (v:=Vi 2) (by rw [Nat.mul_one]; exact hc0)) ?_))
   refine Rn [1,9,0,11,4,7,0] ?_
   refine Xv (v:=Pt p2) rfl (cw dw (Maps.int_keyed u3) dZ rfl rfl (Maps.keyOf_int_mk u3 (by decide)) (cf (.tail _ (.head _))) hC.f rfl) ?_
   refine Rn [1,2,5,3,0,11,4,4] ?_
   refine Xl rfl u3 rfl (aa (vs:=cB ⟨⟨2,1,b⟩,p2,.slice none 0 0⟩) (off:=1) (v:=Vi 1) (.tail _ (.tail _ (.tail _ (.head _)))) rfl) ?_
   refine Rn [38] fun b33 hb33=>?_
   obtain rfl:b33=false:=hb33.trans (by decide)
   refine Rn [2,10] (Aw (fun hc33=>?_) fun hc33=>?_)
   ·cases hc33
   refine Rn [16,5] ?_
   refine bc 11 ?_
   refine Rn [0,11,4,7,0,11,4,4] ?_
   refine Xl rfl u3 rfl (aa (vs:=cB ⟨⟨2,1,b⟩,p2,.slice none 0 0⟩) (off:=1) (v:=Vi 1) (.tail _ (.tail _ (.tail _ (.head _)))) rfl) (Xv (v:=Pt p1) rfl (cw dw (Maps.int_keyed u3) dZ rfl rfl (Maps.keyOf_int_mk u3 (by decide)) (cf (.tail _ (.head _))) hC.f rfl) ?_)
   refine Rn [1,2,5,3,0,62] fun b45 hb45=>?_
   obtain rfl:b45=false:=hb45
   refine Rn [2,10] (Aw (fun hc45=>?_) fun hc45=>?_)
   ·cases hc45
   refine Rn [16,18,0,0,11,4,7,0] ?_
   refine ac (cs:=[Pt p2]) rfl rfl rfl tN wN dZ rfl rfl rfl ?_
   intro p52
   refine be (e:=126) ((Bk p52 [Pt p2] 126)::(Bk pF (bP mF money) 125)::(mF,Obj.map es ck)::(Bk p1 (cB ⟨⟨1,0,a⟩,p1,au R 0⟩) 130)::(Bk p2 (cB ⟨⟨2,1,b⟩,p2,.slice none 0 0⟩) 130)::(Bk p3 (cB ⟨⟨3,1,c⟩,p3,.slice none 0 0⟩) 130)::[]) (l2:=L) R (len:=0) (xs:=[Pt p2,Pt p3].take 0) rfl rfl rfl rfl (by simp) hR tN apFP rfl rfl (m:=1) (news:=[Pt p2]) (fun i hi=>aa (vs:=[Pt p2]) (.head _) (by rw [Nat.zero_add]; exact List.getElem?_eq_getElem hi)) rfl Zx (by omega) fun R' hR'=>?_
   refine Rn [11,4] ?_
   refine aG (cs:=cB ⟨⟨1,0,a⟩,p1,au R 0⟩) (off:=5) (e:=130) (l2:=(Bk p2 (cB ⟨⟨2,1,b⟩,p2,.slice none 0 0⟩) 130)::(Bk p3 (cB ⟨⟨3,1,c⟩,p3,.slice none 0 0⟩) 130)::(aA 126 R'++L)) [(Bk p52 [Pt p2] 126),(Bk pF (bP mF money) 125),(mF,Obj.map es ck)] rfl rfl rfl (by simp) wO rfl (by show 5+1≤6; decide) ?_
   refine Rn [13,27,17,18,26,0,13] ?_
   exact aJ (2,R') ⟨(show 2≤3 by decide),hR'⟩ (show 3 - 2 < 3 - 1 by decide) Zu (fun w1 h=>(h.less Ls (fun _ h=>h)).to (by simp <;> rfl))
  obtain ⟨b0,o0,hA0,hD0,hc0,hin0⟩:=fW hR16 (k:=2) (by decide)
  refine Zr (Xv rfl (ae ij cT (congrArg (fun A=>some (Value.slice A 3 c16)) hA0) rfl (by decide) rfl) (Xl rfl u3 rfl (an (.head _) (fun q hq e=>by have:=hm16.lt hq; omega) (v:=Vi 3) (by rw [Nat.mul_one]; exact hc0)) ?_))
  refine Rn [1,9,0,11,4,7,0] ?_
  refine Xv (v:=Pt p3) rfl (cw dw (Maps.int_keyed u3) dZ rfl rfl (Maps.keyOf_int_mk u3 (by decide)) (cf (.tail _ (.head _))) hC.f rfl) ?_
  refine Rn [1,2,5,3,0,11,4,4] ?_
  refine Xl rfl u3 rfl (aa (vs:=cB ⟨⟨3,1,c⟩,p3,.slice none 0 0⟩) (off:=1) (v:=Vi 1) (.tail _ (.tail _ (.tail _ (.tail _ (.head _))))) rfl) ?_
  refine Rn [38] fun b33 hb33=>?_
  obtain rfl:b33=false:=hb33.trans (by decide)
  refine Rn [2,10] (Aw (fun hc33=>?_) fun hc33=>?_)
  ·cases hc33
  refine Rn [16,5] ?_
  refine bc 11 ?_
  refine Rn [0,11,4,7,0,11,4,4] ?_
  refine Xl rfl u3 rfl (aa (vs:=cB ⟨⟨3,1,c⟩,p3,.slice none 0 0⟩) (off:=1) (v:=Vi 1) (.tail _ (.tail _ (.tail _ (.tail _ (.head _))))) rfl) (Xv (v:=Pt p1) rfl (cw dw (Maps.int_keyed u3) dZ rfl rfl (Maps.keyOf_int_mk u3 (by decide)) (cf (.tail _ (.head _))) hC.f rfl) ?_)
  refine Rn [1,2,5,3,0,62] fun b45 hb45=>?_
  obtain rfl:b45=false:=hb45
  refine Rn [2,10] (Aw (fun hc45=>?_) fun hc45=>?_)
  ·cases hc45
  refine Rn [16,18,0,0,11,4,7,0] ?_
  refine ac (cs:=[Pt p3]) rfl rfl rfl tN wN dZ rfl rfl rfl ?_
  intro p52
  refine be (e:=126) ((Bk p52 [Pt p3] 126)::(Bk pF (bP mF money) 125)::(mF,Obj.map es ck)::(Bk p1 (cB ⟨⟨1,0,a⟩,p1,au R 1⟩) 130)::(Bk p2 (cB ⟨⟨2,1,b⟩,p2,.slice none 0 0⟩) 130)::(Bk p3 (cB ⟨⟨3,1,c⟩,p3,.slice none 0 0⟩) 130)::[]) (l2:=L) R (len:=1) (xs:=[Pt p2,Pt p3].take 1) rfl rfl rfl rfl (by simp) hR tN apFP rfl rfl (m:=1) (news:=[Pt p3]) (fun i hi=>aa (vs:=[Pt p3]) (.head _) (by rw [Nat.zero_add]; exact List.getElem?_eq_getElem hi)) rfl Zx (by omega) fun R' hR'=>?_
  refine Rn [11,4] ?_
  refine aG (cs:=cB ⟨⟨1,0,a⟩,p1,au R 1⟩) (off:=5) (e:=130) (l2:=(Bk p2 (cB ⟨⟨2,1,b⟩,p2,.slice none 0 0⟩) 130)::(Bk p3 (cB ⟨⟨3,1,c⟩,p3,.slice none 0 0⟩) 130)::(aA 126 R'++L)) [(Bk p52 [Pt p3] 126),(Bk pF (bP mF money) 125),(mF,Obj.map es ck)] rfl rfl rfl (by simp) wO rfl (by show 5+1≤6; decide) ?_
  refine Rn [13,27,17,18,26,0,13] ?_
  exact aJ (3,R') ⟨(show 3≤3 by decide),hR'⟩ (show 3 - 3 < 3 - 2 by decide) Zu (fun w1 h=>(h.less Ls (fun _ h=>h)).to (by simp <;> rfl))
 obtain rfl:k=3:=by omega
 clear hkL
 obtain ⟨b2,cs2,c2,rfl,hcs0⟩:=hR.cell (j:=0) (show 0 < 2 by decide)
 obtain ⟨_,_,_,hq,hcs1⟩:=hR.cell (j:=1) (show 1 < 2 by decide)
 injection hq with hq
 injection hq with hq1 hq
 injection hq with hq2 hq3
 subst hq1 hq2 hq3
 refine Rn [34,19,19,35,17,3,28,9] fun p7=>?_
 refine Xv rfl (vc rfl) ?_
 refine aG [] rfl rfl rfl rfl sz162 rfl (by first | decide | simp) ?_
 refine Rn [9,1,2,5,3,0,11,4] ?_
 refine Xl rfl dw rfl (aa (vs:=bP mF money) (.tail _ (.head _)) rfl) ?_
 refine x_range rfl rfl rfl dw rfl (cf (.tail _ (.tail _ (.head _)))) fun r62=>?_
 refine Rn [2,14] ?_
 refine aO (σ:=Array Nat×List MapEntry×Int) (fun z=>Iter es z.1 z.2.1∧nl z.2.1 z.2.2) (fun z=>[(0,Pt pF),(7,Pt p7),(8,Vi z.2.2),(62,Pt r62)]) (fun z=>(r62,Obj.mapIter (some mF) ck z.1 ck)::(p7,Obj.cells #[Value.func (.func 150) #[] #[Pt p7]] 162)::(Bk pF (bP mF money) 125)::(mF,Obj.map es ck)::(Bk p1 (cB ⟨⟨1,0,a⟩,p1,au (some (b2,cs2,c2)) 2⟩) 130)::(Bk p2 (cB ⟨⟨2,1,b⟩,p2,.slice none 0 0⟩) 130)::(Bk p3 (cB ⟨⟨3,1,c⟩,p3,.slice none 0 0⟩) 130)::(aA 126 (some (b2,cs2,c2))++L)) (fun z=>(wb16,a7 ((Bm,Obj.cells #[.map (some mF)] 123)::(Bk pF (bP mF money) 125)::(mF,Obj.map es ck)::(Bk p1 (cB ⟨⟨1,0,a⟩,p1,.slice none 0 0⟩) 130)::(Bk p2 (cB ⟨⟨2,1,b⟩,p2,.slice none 0 0⟩) 130)::(Bk p3 (cB ⟨⟨3,1,c⟩,p3,.slice none 0 0⟩) 130)::L))::ro) (fun z=>es.size - z.2.1.length) ((#[],[],0)) (⟨Iter.nil,nl.nil⟩) (aC Zu (fun _ h=>h)) ?_
 rintro ⟨seen,dn,cn⟩ ⟨hit,hcn⟩
 dsimp only at hit hcn
 refine Zs ?_
 by_cases h0:(leftOf es seen).size=0
 ·refine Zr ?_
  refine x_next [] rfl rfl rfl rfl (Nat.le_refl _) (cf (.tail _ (.tail _ (.tail _ (.head _))))) hC.bornLt (fun h=>?_) (fun e he=>absurd h0 (by rw [← Array.length_toList]; exact Nat.ne_of_gt (List.length_pos_of_mem he)))
  refine Rn [48] fun b64 hb64=>?_
  obtain rfl:b64=false:=hb64
  refine Rn [2,5,10] (Aw (fun hc64=>?_) fun hc64=>?_)
  ·cases hc64
  refine Rn [34,19,19,35,17,3,0,0,11,4,7] ?_
  refine Xv (v:=Vi 3) rfl (by rw [show (3:Int)=((es.size:Nat):Int) from by rw [hC.size nH]; rfl]; exact qV dw rfl (.tail _ (.tail _ (.tail _ (.head _))))) ?_
  refine Rn [38,1,2,6] fun b84 hb84=>?_
  have hc3:=hcn.done hC nH (by decide) hit h0
  subst hc3
  exact aw rfl rfl (fun w' hm'=>⟨by rw [hb84]; rfl,some (b2,cs2,c2),hR,(hm'.less (Ls.trans Ls) (fun _ h=>.tail _ h))⟩)
 refine Zr ?_
 refine x_next [] rfl rfl rfl rfl (Nat.le_refl _) (cf (.tail _ (.tail _ (.tail _ (.head _))))) hC.bornLt (fun h=>absurd h h0) (fun e he=>?_)
 obtain ⟨ek,ev,eb⟩:=e
 obtain ⟨hit2,hes,hnd⟩:=hit.push he
 obtain ⟨id,hid,hek,hev⟩:=hC.keyId nH hes
 dsimp only at hek hev
 subst hek
 refine Rn [48] fun b64 hb64=>?_
 obtain rfl:b64=true:=hb64
 refine Rn [2,5,10] (Aw (fun hc64=>?_) fun hc64=>?_)
 ·simp only [List.mem_cons,List.not_mem_nil,or_false] at hid
  refine Rn [16,14,5] ?_
  rcases hid with rfl | rfl | rfl
  ·have hev:ev=Pt p1:=(Option.some.inj hev).symm
   subst hev
   obtain ⟨rfl,hcn2⟩:=hcn.take hC hit rfl hes hnd
   refine Zr (Xv (v:=Value.tuple #[Vi 1,Pt p1]) rfl (sX (x:=⟨Vi 1,Pt p1,eb⟩) rfl (.head _) (cf (.tail _ (.tail _ (.tail _ (.head _))))) hes hC.bornNd) ?_)
   refine Rn [20,1,9,0,11,4,4] ?_
   refine Xl rfl u3 rfl (aa (vs:=cB ⟨⟨1,0,a⟩,p1,au (some (b2,cs2,c2)) 2⟩) (v:=Vi 0) (.tail _ (.tail _ (.tail _ (.tail _ (.head _))))) rfl) ?_
   refine Rn [38] fun b72 hb72=>?_
   obtain rfl:b72=true:=hb72.trans (by decide)
   refine Rn [2,10] (Aw (fun hc72=>?_) fun hc72=>?_)
   ·refine Rn [18,0,7,0] ?_
    refine nL (cap:=#[Pt p7]) (v:=Vi 3) rfl rfl rfl rfl Tryz.func150 Zk rfl (fun w1 hw1=>g_cnt2 (x:=⟨⟨1,0,a⟩,p1,au (some (b2,cs2,c2)) 2⟩) w1 (fun i v hv=>aa (vs:=cB ⟨⟨1,0,a⟩,p1,au (some (b2,cs2,c2)) 2⟩) (.tail _ (.tail _ (.tail _ (.tail _ (.head _))))) hv w1 hw1) rfl (fun k=>match k with | 0=>⟨⟨2,1,b⟩,p2,.slice none 0 0⟩ | _=>⟨⟨3,1,c⟩,p3,.slice none 0 0⟩) (fun k hk=>match k,hk with | 0,_=>aa (vs:=cs2) (.tail _ (.tail _ (.tail _ (.tail _ (.tail _ (.tail _ (.tail _ (.head _)))))))) hcs0 w1 hw1 | 1,_=>aa (vs:=cs2) (.tail _ (.tail _ (.tail _ (.tail _ (.tail _ (.tail _ (.tail _ (.head _)))))))) hcs1 w1 hw1) (fun k hk i v hv=>match k,hk,hv with | 0,_,hv=>aa (vs:=cB ⟨⟨2,1,b⟩,p2,.slice none 0 0⟩) (.tail _ (.tail _ (.tail _ (.tail _ (.tail _ (.head _)))))) hv w1 hw1 | 1,_,hv=>aa (vs:=cB ⟨⟨3,1,c⟩,p3,.slice none 0 0⟩) (.tail _ (.tail _ (.tail _ (.tail _ (.tail _ (.tail _ (.head _))))))) hv w1 hw1) (fun k hk=>match k,hk with | 0,_=>rfl | 1,_=>rfl) (aa (vs:=[Value.func (.func 150) #[] #[Pt p7]]) (.tail _ (.head _)) rfl w1 hw1)) ?_
    refine Rn [26,1,13,27] ?_
    exact aJ (seen.push eb,dn++[_],3) ⟨hit2,hcn2⟩ (by have h9:=hit2.len hC; rw [List.length_append,List.length_singleton] at h9; show es.size - (dn++[_]).length < es.size - dn.length; rw [List.length_append,List.length_singleton]; omega) Zu (fun _ h=>h)
   cases hc72
  ·have hev:ev=Pt p2:=(Option.some.inj hev).symm
   subst hev
   have hcn2:=hcn.skip (e:=⟨Vi 2,Pt p2,eb⟩) (by simp)
   refine Zr (Xv (v:=Value.tuple #[Vi 2,Pt p2]) rfl (sX (x:=⟨Vi 2,Pt p2,eb⟩) rfl (.head _) (cf (.tail _ (.tail _ (.tail _ (.head _))))) hes hC.bornNd) ?_)
   refine Rn [20,1,9,0,11,4,4] ?_
   refine Xl rfl u3 rfl (aa (vs:=cB ⟨⟨2,1,b⟩,p2,.slice none 0 0⟩) (v:=Vi 1) (.tail _ (.tail _ (.tail _ (.tail _ (.tail _ (.head _)))))) rfl) ?_
   refine Rn [38] fun b72 hb72=>?_
   obtain rfl:b72=false:=hb72.trans (by decide)
   refine Rn [2,10] (Aw (fun hc72=>?_) fun hc72=>?_)
   ·cases hc72
   refine Rn [45,27] ?_
   exact aJ (seen.push eb,dn++[_],cn) ⟨hit2,hcn2⟩ (by have h9:=hit2.len hC; rw [List.length_append,List.length_singleton] at h9; show es.size - (dn++[_]).length < es.size - dn.length; rw [List.length_append,List.length_singleton]; omega) Zu (fun _ h=>h)
  have hev:ev=Pt p3:=(Option.some.inj hev).symm
  subst hev
  have hcn2:=hcn.skip (e:=⟨Vi 3,Pt p3,eb⟩) (by simp)
  refine Zr (Xv (v:=Value.tuple #[Vi 3,Pt p3]) rfl (sX (x:=⟨Vi 3,Pt p3,eb⟩) rfl (.head _) (cf (.tail _ (.tail _ (.tail _ (.head _))))) hes hC.bornNd) ?_)
  refine Rn [20,1,9,0,11,4,4] ?_
  refine Xl rfl u3 rfl (aa (vs:=cB ⟨⟨3,1,c⟩,p3,.slice none 0 0⟩) (v:=Vi 1) (.tail _ (.tail _ (.tail _ (.tail _ (.tail _ (.tail _ (.head _))))))) rfl) ?_
  refine Rn [38] fun b72 hb72=>?_
  obtain rfl:b72=false:=hb72.trans (by decide)
  refine Rn [2,10] (Aw (fun hc72=>?_) fun hc72=>?_)
  ·cases hc72
  refine Rn [45,27] ?_
  exact aJ (seen.push eb,dn++[_],cn) ⟨hit2,hcn2⟩ (by have h9:=hit2.len hC; rw [List.length_append,List.length_singleton] at h9; show es.size - (dn++[_]).length < es.size - dn.length; rw [List.length_append,List.length_singleton]; omega) Zu (fun _ h=>h)
 cases hc64
theorem g_Open0 {fs:List FG} {a b c:FSt} (hfs:fs=[(⟨1,0,a⟩:FG),⟨2,1,b⟩,⟨3,1,c⟩]) (s:ByteArray) (w:World) (hs:s.size≤2000000) (hri:zv s=(er fs,0)) (hv:opF fs) :
  Calls Tryz.prog 47 #[.string s] w fun e w'=>∃ z:Nat×Nat×Nat×Array MapEntry×List FM×List (Nat×Obj),e=.returned (.tuple #[Pt z.1,Vi 0])∧MapC Tryz.prog 3 z.2.2.2.1 z.2.2.1 (cC z.2.2.2.2.1)∧bW z.2.2.2.2.1=fs∧Mem w' ((Bk z.1 (bP z.2.1 (fH fs)) 125)::(z.2.1,Obj.map z.2.2.2.1 z.2.2.1)::(FB 130 z.2.2.2.2.1++z.2.2.2.2.2)) [(w,fun _=>True)]:=by
 have hvl:=hv.len
 refine enter Tryz.func47 rfl Tryz.ntmps47 rfl ?_
 refine Rn [3,1,1,9,0] ?_
 refine Xd (R:=fun v wa wb=>∃ A1 c1,v=.tuple #[.slice A1 (er fs).length c1,Vi 0]∧ab i8 (fun b=>wa.heap.size≤b) wb (.slice A1 (er fs).length c1) (er fs)) rfl Tryz.func98 rfl (fun w1 hw1=>(c_RI s w1 hs).mono fun e w2 ⟨v,h1,h2,h3⟩=>by rw [hri] at h1 h3; obtain ⟨A1,c1,rfl,_⟩:=id h3; exact ⟨_,h1,h2,A1,c1,rfl,h3⟩) fun v12 wa12 wb12 hm12 hl12 hR12=>?_
 obtain ⟨A12,c12,rfl,hr12⟩:=hR12
 have hel:=fS fs
 rw [hel] at hr12 ⊢
 refine Rn [0,20,20,1,1,2,5,3,0,37] fun b16 hb16=>?_
 obtain rfl:b16=false:=hb16.trans (decide_eq_false (fun q=>q rfl))
 refine Rn [0,29,87] ?_
 have e20:((fs.length*5:Nat):Int).tmod 5=0:=by rw [Int.tmod_eq_emod_of_nonneg (by omega)]; omega
 refine cz rfl rfl rfl rfl rfl (jL rfl rfl (by decide)) ?_
 refine Rn [79] fun b21 hb21=>?_
 obtain rfl:b21=false:=hb21.trans (decide_eq_false (fun q=>q e20))
 refine Rn [25] fun b22 hb22=>?_
 obtain rfl:b22=false:=hb22
 refine Rn [0,29,87] ?_
 refine cz rfl rfl rfl rfl rfl (v:=Vi (fs.length:Nat)) (iq rfl rfl (by decide) (by rw [Int.tdiv_eq_ediv_of_nonneg (by omega)]; omega) (by omega)) ?_
 refine Rn [68] fun b27 hb27=>?_
 obtain rfl:b27=false:=hb27.trans (decide_eq_false (by have:=hv.len; omega))
 refine Rn [25] fun b28 hb28=>?_
 obtain rfl:b28=false:=hb28
 refine Rn [2,10] (Aw (fun hc28=>?_) fun hc28=>?_)
 ·cases hc28
 refine Rn [23] ?_
 refine fq (τ:=Nat) (fun pF=>Pt pF) (fun _=>True) (fun pF=>[(Bk pF [Value.map none,Vi 0] 125)]) rfl rfl rfl Tryz.func22 Zk rfl (fun w1 hw1=>(c_FNew w1).mono fun e w2 ⟨pF,h1,h2⟩=>⟨pF,h1,h2.b,trivial,hw1.join h2⟩) fun p29 _=>?_
 refine Rn [1,9,1,2,5,3,1,2,14] ?_
 refine aO (σ:=Nat×List FM×MO×Int) (fun z=>z.1≤fs.length∧bW z.2.1=fs.take z.1∧(∀ y∈z.2.1,y.bel=.slice none 0 0)∧mapIs Tryz.prog 3 z.2.2.1 (cC z.2.1)∧∀ hk:z.1 < fs.length,z.2.2.2 < fs[z.1].id) (fun z=>[(4,Value.slice A12 (fs.length*5) c12),(6,Pt p29),(7,Vi z.2.2.2),(8,Vi ((z.1*5:Nat):Int))]) (fun z=>(Bk p29 [Value.map (z.2.2.1.map (·.1)),Vi (fH (fs.take z.1))] 125)::(mapO z.2.2.1++FB 130 z.2.1)) (fun z=>[(wb12,a7 []),(w,fun _=>True)]) (fun z=>fs.length - z.1) ((0,[],none,0)) (⟨Nat.zero_le _,rfl,fun y h=>(by cases h),(by show cC []=_; funext v; unfold cC; split <;> rfl),fun hk=>by obtain ⟨⟨h,_⟩,_⟩:=hv.fg _ (List.getElem_mem hk); show (0:Int) < _; omega⟩) (aC Zu (fun _ h=>h)) ?_
 rintro ⟨k,ms,m,la⟩ ⟨hkL,hms,hbel,hM,hla⟩
 refine Rn [144] ?_
 dsimp only at hkL hms hbel hM hla
 refine Rn [5,3,0,0,31,24,2,12] fun b33 hb33=>Aw (fun hc33=>?_) fun hc33=>?_
 ·have hk:k < fs.length:=by omega
  obtain ⟨b0,o0,hA0,hD0,hcell⟩:=ye hr12 (by omega)
  have hC:∀ j n,(xP fs[k])[j]?=some n→wb12.cell? ⟨b0,o0+(k*5+j),none⟩=some (Vi n):=fun j n hj=>(hcell _ _ (yd hk hj)).1
  have hgk:=hv.fg _ (List.getElem_mem hk)
  have hbk:=hv.bd _ (List.getElem_mem hk)
  have hla:=hla hk
  have hidk:aj fs[k].id:=by obtain ⟨⟨q1,q2⟩,_⟩:=id hgk; unfold aj; omega
  have hall:=mL (by decide) hv.bd k
  have hkk:(k:Int)≤10:=by have:=hv.len; omega
  refine Rn [16,5,14,5] ?_
  refine bc 26 ?_
  refine Rn [0,0,0] ?_
  refine Xv rfl (ae ij cT (congrArg (fun A=>some (Value.slice A (fs.length*5) c12)) hA0) rfl (by omega) rfl) (Xl rfl u3 rfl (an (.head _) (fun q hq=>by cases hq) (by rw [Nat.mul_one]; exact hC 0 _ rfl)) ?_)
  refine Rn [0,0] ?_
  refine Xv rfl (bg (c:=((k*5+1:Nat):Int)) rfl rfl (by omega) (by omega)) (Xv rfl (ae ij cT (congrArg (fun A=>some (Value.slice A (fs.length*5) c12)) hA0) rfl (by omega) rfl) (Xl rfl u3 rfl (an (.head _) (fun q hq=>by cases hq) (by rw [Nat.mul_one]; exact hC 1 _ rfl)) ?_))
  refine Rn [0,0] ?_
  refine Xv rfl (bg (c:=((k*5+2:Nat):Int)) rfl rfl (by omega) (by omega)) (Xv rfl (ae ij cT (congrArg (fun A=>some (Value.slice A (fs.length*5) c12)) hA0) rfl (by omega) rfl) (Xl rfl u3 rfl (an (.head _) (fun q hq=>by cases hq) (by rw [Nat.mul_one]; exact hC 2 _ rfl)) ?_))
  refine Rn [0,0] ?_
  refine Xv rfl (bg (c:=((k*5+3:Nat):Int)) rfl rfl (by omega) (by omega)) (Xv rfl (ae ij cT (congrArg (fun A=>some (Value.slice A (fs.length*5) c12)) hA0) rfl (by omega) rfl) (Xl rfl u3 rfl (an (.head _) (fun q hq=>by cases hq) (by rw [Nat.mul_one]; exact hC 3 _ rfl)) ?_))
  refine Rn [0,0] ?_
  refine Xv rfl (bg (c:=((k*5+4:Nat):Int)) rfl rfl (by omega) (by omega)) (Xv rfl (ae ij cT (congrArg (fun A=>some (Value.slice A (fs.length*5) c12)) hA0) rfl (by omega) rfl) (Xl rfl u3 rfl (an (.head _) (fun q hq=>by cases hq) (by rw [Nat.mul_one]; exact hC 4 _ rfl)) (Xv (v:=Value.agg (eN fs[k]).toArray) rfl (aH (cs:=eN fs[k]) (places:=[(0,1),(1,1),(2,1),(3,1),(4,1)]) wT zK Zk rfl rfl) ?_)))
  refine gB (fun (x:Nat×Nat×Array MapEntry×Nat) v _ _=>v=Pt x.1∧MapC Tryz.prog 3 x.2.2.1 x.2.2.2 (ir (cC ms) (Vi fs[k].id) (Pt x.1))) (fun x=>(Bk x.1 (wh fs[k]) 130)::(Bk p29 (bP x.2.1 (fH (fs.take k)+fs[k].s.al)) 125)::(x.2.1,Obj.map x.2.2.1 x.2.2.2)::FB 130 ms) rfl rfl Tryz.func67 Zk rfl (fun w1 hw1=>g_Fput (money:=fH (fs.take k)) (L:=FB 130 ms) fs[k] hidk (by omega) (m:=m) hM hw1) ?_
  rintro _ ⟨pX,mF,esF,ckF⟩ wa wb _ ⟨rfl,hmf⟩ _
  dsimp only at hmf
  refine Rn [1,2,5,5] ?_
  refine dY (own':=(Bk pX (wh fs[k]) 130)::(Bk p29 (bP mF (fH (fs.take k)+fs[k].s.al)) 125)::(mF,Obj.map esF ckF)::FB 130 ms) (ro':=[(wb12,a7 []),(w,fun _=>True)]) (fun w1 h=>h.less (.refl _) (fun _ h=>.tail _ h)) ?_
  refine Zr (Xm ?_)
  refine Xh rfl Tryz.func102 rfl (fun w1 hw1=>g_right (x:=(⟨fs[k],pX,.slice none 0 0⟩:FM)) w1 (fun i v hv=>aa (vs:=wh fs[k]) (.head _) hv w1 hw1) hgk) fun b64 hb64=>?_
  obtain rfl:b64=true:=hb64
  refine Rn [43] fun b65 hb65=>?_
  obtain rfl:b65=false:=hb65
  refine Rn [0,29,82,47,47,50,29,101] fun b73 hb73=>?_
  obtain rfl:b73=false:=hb73.trans (decide_eq_false (by omega))
  refine Rn [25] fun b74 hb74=>?_
  obtain rfl:b74=false:=hb74
  refine Rn [0,29,82,47,50,68] fun b80 hb80=>?_
  obtain rfl:b80=false:=hb80.trans (decide_eq_false (by omega))
  refine Rn [25] fun b81 hb81=>?_
  obtain rfl:b81=false:=hb81
  refine Rn [2,10] (Aw (fun hc81=>?_) fun hc81=>?_)
  ·cases hc81
  refine Rn [16,18,0,11,4,4,7,1,13,27,17,18,0,26,1,13] ?_
  exact aJ (k+1,ms++[(⟨fs[k],pX,.slice none 0 0⟩:FM)],some (mF,esF,ckF),fs[k].id) ⟨hk,by unfold bW at hms ⊢; rw [List.map_append,hms,List.take_succ_eq_append_getElem hk]; rfl,fun y hy=>by
   rcases List.mem_append.1 hy with hy | hy
   ·exact hbel y hy
   rw [List.mem_singleton.1 hy],by show MapC _ _ esF ckF _; rw [fMM_snoc (lkM_new hk hv.srt hms)]; exact hmf,fun h=>sV hv.srt hk h (Nat.lt_succ_self k)⟩ (by simp only; omega) (by dsimp only; rw [show (k+1)*5=k*5+5 by omega]; exact Zu) (fun w1 h=>(h.perm (((List.perm_append_comm (l₁:=[_]) (l₂:=_::_::_))))).to (by simp only [lg,FB_app]; simp [mapO,mK hk]; exact ⟨rfl,rfl⟩))
 obtain rfl:k=fs.length:=by omega
 rw [List.take_length] at hms
 subst hfs
 obtain ⟨p1,p2,p3,rfl⟩:=m3_of hms hbel
 obtain ⟨mF,esF,ckF,rfl,hMF⟩:=zq hM
 refine Rn [34,19,19,35,17,5,5] ?_
 refine dY (own':=(Bk p29 (bP mF (fH [(⟨1,0,a⟩:FG),⟨2,1,b⟩,⟨3,1,c⟩])) 125)::(mF,Obj.map esF ckF)::FB 130 (m3 a b c p1 p2 p3 (.slice none 0 0))) (ro':=[(wb12,a7 []),(w,fun _=>True)]) (fun w1 h=>h.to (by rw [List.take_length]; rfl)) ?_
 refine Zr (Xm ?_)
 refine aI (τ:=ak) (v:=Value.bool true) (fun R=>ag 1 R 2 [Pt p2,Pt p3]) (fun R=>(Bk p29 (bP mF (fH [(⟨1,0,a⟩:FG),⟨2,1,b⟩,⟨3,1,c⟩])) 125)::(mF,Obj.map esF ckF)::(FB 130 (m3 a b c p1 p2 p3 (au R 2))++(aA 126 R++[]))) rfl rfl Tryz.func103 Zk rfl (fun w1 hw1=>g_conn (L:=[]) hMF hw1) fun R88 hR88=>?_
 refine Rn [43] fun b89 hb89=>?_
 obtain rfl:b89=false:=hb89
 refine Rn [2,10] (Aw (fun hc89=>?_) fun hc89=>?_)
 ·cases hc89
 refine Rn [23,0,1,1,2,6] ?_
 exact s7 rfl rfl rfl (fun w' hm=>⟨(p29,mF,ckF,esF,m3 a b c p1 p2 p3 (au R88 2),aA 126 R88++[]),rfl,by rw [m3_map]; exact hMF,rfl,hm.less (.refl _) (fun _ h=>.tail _ h)⟩)
theorem AQ {fs:List FG} {m:Int} (hk:fs.map iZ=uN m) (w:World) (hv:opF fs):Calls Tryz.prog 47 #[.string ⟨(cF (er fs)).toArray⟩] w fun e w'=>∃ z:Nat×Nat×Nat×Array MapEntry×List FM×List (Nat×Obj),e=.returned (.tuple #[Pt z.1,Vi 0])∧MapC Tryz.prog 3 z.2.2.2.1 z.2.2.1 (cC z.2.2.2.2.1)∧bW z.2.2.2.2.1=fs∧Mem w' ((Bk z.1 (bP z.2.1 (fH fs)) 125)::(z.2.1,Obj.map z.2.2.2.1 z.2.2.1)::(FB 130 z.2.2.2.2.1++z.2.2.2.2.2)) [(w,fun _=>True)]:=by
 obtain ⟨a,b,c,h,_⟩:=fs3 hk
 have h1:=hv.len
 have h2:=fS fs
 exact g_Open0 h _ w (pw (by omega) (ku hv.fg)) (uT (by omega) (ku hv.fg)) hv
open Go.RowKit Go.PK
structure Jx where
  (x:Fx)
  (pR pG:Nat)
  (tr:Int)
  (Lb:List (Nat×Obj))
structure Jq where
  (q:Sq)
  (RE RF:ak)
def Jx.own (y:Jx) (tol:Int) (s:SG) (z:Jq) (L:List (Nat×Obj)):List (Nat×Obj):=y.x.own tol z.q++(y.Lb++(dG y.pR y.pG y.tr z.RE s.L.length++(bD y.pG z.RF s.fs.length++L)))
structure JG (m:Int) (y:Jx) (tol:Int) (s1 s2:SG) (z:Jq):Prop where
  g:Good y.x s1 z.q
  E:ag 10 z.RE s2.L.length (ax du s2.L)
  F:ag 5 z.RF s2.fs.length (ax cD s2.fs)
  d1:DOK m s1
  d2:DOK m s2
  t1:s1.tol=tol
  t2:s2.tol=tol
  tr:tol=min (max y.tr 0) 1000000
  mb:0≤m∧m < 5000
def JO (m:Int) (y:Jx) (tol:Int) (s1 s2:SG) (l1 L:List (Nat×Obj)) (ro:List av) (c:Int) (e:Ending) (w':World):Prop:=e=.returned (Vi c)∧∃ z,JG m y tol s1 s2 z∧Mem w' (l1++y.own tol s2 z L) ro
theorem rk {s:SG} {x:PK.Ord}:(aD s x).2.tol=s.tol:=by
 unfold aD; split <;> (try split) <;> (try split) <;> rfl
theorem px {s:SG} {x:PK.Ord} {e:Int}:(ah s x e).2.tol=s.tol:=by
 unfold ah; repeat' (first | rfl | split)
theorem nh {s:SG} {i n:Int}:(ar s i n).2.tol=s.tol:=by
 unfold ar; repeat' (first | rfl | split)
theorem py {s:SG} {i:Int}:(aE s i).2.tol=s.tol:=by
 unfold aE; repeat' (first | rfl | split)
theorem ni {s:SG} {ls:List PK.Ord} {e:Int}:(aF s ls e).2.tol=s.tol:=by
 unfold aF; repeat' (first | rfl | split)
section
variable {w:World} {l1 L:List (Nat×Obj)} {ro:List av} {m tol:Int} {y:Jx} {s1 s2:SG} {z:Jq}
theorem d4 {s:SG} (h:Mem w (l1++y.own tol s z L) ro):Mem w (dG y.pR y.pG y.tr z.RE s.L.length++(bD y.pG z.RF s.fs.length++(l1++(y.x.own tol z.q++(y.Lb++L))))) ro :=
 (Mem.front (a:=l1++(y.x.own tol z.q++y.Lb)) (b:=dG y.pR y.pG y.tr z.RE s.L.length++bD y.pG z.RF s.fs.length) (c:=L) (h.to (by simp only [Jx.own,List.append_assoc]))).to (by simp only [List.append_assoc])
theorem uW {s:SG} {q:Sq} {RE RF:ak} (h:Mem w (dG y.pR y.pG y.tr RE s.L.length++(bD y.pG RF s.fs.length++(l1++(y.x.own tol q++(y.Lb++L))))) ro):Mem w (l1++y.own tol s ⟨q,RE,RF⟩ L) ro :=
 (Mem.front (b:=l1++(y.x.own tol q++y.Lb)) (a:=dG y.pR y.pG y.tr RE s.L.length++bD y.pG RF s.fs.length) (c:=L) (h.to (by simp only [List.append_assoc]))).to (by simp only [Jx.own,List.append_assoc])
theorem JG.op2 (h:JG m y tol s1 s2 z):opF s2.fs:=opF.new h.d2.fs h.mb h.d2.inv.ok.fs
theorem uX (hm:Mem w (l1++y.own tol s2 z L) ro) (hg:JG m y tol s1 s2 z) {ws:World} (hws:(ws,fun _=>True)∈ro) (hL:LD ws) (a:PK.Ord) (ha:a.okA) (hw:rh a):Calls Tryz.prog 12 #[Pt y.x.pO,.agg a.cells.toArray] w (JO m y tol (aD s1 a).2 s2 l1 L ro (aD s1 a).1):=by
 obtain rfl:=hg.t1
 refine (x2 (L:=y.Lb++(dG y.pR y.pG y.tr z.RE s2.L.length++(bD y.pG z.RF s2.fs.length++L))) hm hg.g hws hL a ha (by have:=hg.d1.len; omega)).mono ?_
 rintro e w2 ⟨h1,q,h2,h3⟩
 exact ⟨h1,⟨q,z.RE,z.RF⟩,⟨h2,hg.E,hg.F,hg.d1.place hw,hg.d2,rk,hg.t2,hg.tr,hg.mb⟩,h3⟩
theorem uY (hm:Mem w (l1++y.own tol s2 z L) ro) (hg:JG m y tol s1 s2 z) (a:PK.Ord) (ha:a.okA) (hw:rh a):Calls Tryz.prog 78 #[Pt y.pR,.agg a.cells.toArray] w (JO m y tol s1 (aD s2 a).2 l1 L ro (aD s2 a).1):=by
 have h:=r_Place hg.F hg.d2.inv.ok (hg.t2.trans hg.tr) hg.E (d4 hm) a ha (by have:=hg.d2.len; omega)
 refine h.mono ?_
 rintro e w2 ⟨h1,⟨RE,RF⟩,⟨h2,h3⟩,h4⟩
 exact ⟨h1,⟨z.q,RE,RF⟩,⟨hg.g,h2,h3,hg.d1,hg.d2.place hw,hg.t1,rk.trans hg.t2,hg.tr,hg.mb⟩,uW (s:=(aD s2 a).2) h4⟩
theorem pA (hm:Mem w (l1++y.own tol s2 z L) ro) (hg:JG m y tol s1 s2 z) {id:Int} (hid:aj id) (n:Int) (hn:aj n):Calls Tryz.prog 14 #[Pt y.x.pO,Vi id,Vi n] w (JO m y tol (ar s1 id n).2 s2 l1 L ro (ar s1 id n).1):=by
 obtain rfl:=hg.t1
 refine (rf (L:=y.Lb++(dG y.pR y.pG y.tr z.RE s2.L.length++(bD y.pG z.RF s2.fs.length++L))) hm hg.g hid n hn).mono ?_
 rintro e w2 ⟨h1,q,h2,h3⟩
 exact ⟨h1,⟨q,z.RE,z.RF⟩,⟨h2,hg.E,hg.F,hg.d1.receive id n,hg.d2,nh,hg.t2,hg.tr,hg.mb⟩,h3⟩
theorem pB (hm:Mem w (l1++y.own tol s2 z L) ro) (hg:JG m y tol s1 s2 z) {id:Int} (hid:aj id) (n:Int) (hn:aj n):Calls Tryz.prog 79 #[Pt y.pR,Vi id,Vi n] w (JO m y tol s1 (ar s2 id n).2 l1 L ro (ar s2 id n).1):=by
 have h:=r_Rec hg.F hg.d2.inv.ok (hg.t2.trans hg.tr) hg.E (d4 hm) id n hn
 refine h.mono ?_
 rintro e w2 ⟨h1,⟨RE,RF⟩,⟨h2,h3⟩,h4⟩
 exact ⟨h1,⟨z.q,RE,RF⟩,⟨hg.g,h2,h3,hg.d1,hg.d2.receive id n,hg.t1,nh.trans hg.t2,hg.tr,hg.mb⟩,uW (s:=(ar s2 id n).2) h4⟩
theorem zr (hm:Mem w (l1++y.own tol s2 z L) ro) (hg:JG m y tol s1 s2 z) {id:Int} (hid:aj id):Calls Tryz.prog 16 #[Pt y.x.pO,Vi id] w (JO m y tol (aE s1 id).2 s2 l1 L ro (aE s1 id).1):=by
 obtain rfl:=hg.t1
 refine (uK (L:=y.Lb++(dG y.pR y.pG y.tr z.RE s2.L.length++(bD y.pG z.RF s2.fs.length++L))) hm hg.g hid).mono ?_
 rintro e w2 ⟨h1,q,h2,h3⟩
 exact ⟨h1,⟨q,z.RE,z.RF⟩,⟨h2,hg.E,hg.F,hg.d1.cancel id,hg.d2,py,hg.t2,hg.tr,hg.mb⟩,h3⟩
theorem zt (hm:Mem w (l1++y.own tol s2 z L) ro) (hg:JG m y tol s1 s2 z) {id:Int} (hid:aj id):Calls Tryz.prog 80 #[Pt y.pR,Vi id] w (JO m y tol s1 (aE s2 id).2 l1 L ro (aE s2 id).1):=by
 have h:=r_Can hg.F hg.d2.inv.ok (hg.t2.trans hg.tr) hg.E (d4 hm) id
 refine h.mono ?_
 rintro e w2 ⟨h1,⟨RE,RF⟩,⟨h2,h3⟩,h4⟩
 exact ⟨h1,⟨z.q,RE,RF⟩,⟨hg.g,h2,h3,hg.d1,hg.d2.cancel id,hg.t1,py.trans hg.t2,hg.tr,hg.mb⟩,uW (s:=(aE s2 id).2) h4⟩
theorem mM (hm:Mem w (l1++y.own tol s2 z L) ro) (hg:JG m y tol s1 s2 z) {ws:World} (hws:(ws,fun _=>True)∈ro) (hL:LD ws) (t:ByteArray) (hs:t.size≤200000000):Calls Tryz.prog 13 #[Pt y.x.pO,.string t] w (JO m y tol (ah s1 (bn t).1 (bn t).2).2 s2 l1 L ro (ah s1 (bn t).1 (bn t).2).1):=by
 obtain rfl:=hg.t1
 refine (pn (L:=y.Lb++(dG y.pR y.pG y.tr z.RE s2.L.length++(bD y.pG z.RF s2.fs.length++L))) hm hg.g hws hL t hs (uV (by omega))).mono ?_
 rintro e w2 ⟨h1,q,h2,h3⟩
 exact ⟨h1,⟨q,z.RE,z.RF⟩,⟨h2,hg.E,hg.F,hg.d1.answer (kx t).1 (kx t).2 (fun h=>(wd h).2.2.2.2.2.1),hg.d2,px,hg.t2,hg.tr,hg.mb⟩,h3⟩
theorem mN (hm:Mem w (l1++y.own tol s2 z L) ro) (hg:JG m y tol s1 s2 z) (t:ByteArray) (hs:t.size≤200000000):Calls Tryz.prog 35 #[Pt y.pR,.string t] w (JO m y tol s1 (ah s2 (bn t).1 (bn t).2).2 l1 L ro (ah s2 (bn t).1 (bn t).2).1):=by
 have h:=r_Ans hg.F hg.d2.inv.ok (hg.t2.trans hg.tr) hg.E (d4 hm) t hs
 refine h.mono ?_
 rintro e w2 ⟨h1,⟨RE,RF⟩,⟨h2,h3⟩,h4⟩
 exact ⟨h1,⟨z.q,RE,RF⟩,⟨hg.g,h2,h3,hg.d1,hg.d2.answer (kx t).1 (kx t).2 (fun h=>(wd h).2.2.2.2.2.1),hg.t1,px.trans hg.t2,hg.tr,hg.mb⟩,uW (s:=(ah s2 (bn t).1 (bn t).2).2) h4⟩
theorem lk (hm:Mem w (l1++y.own tol s2 z L) ro) (hg:JG m y tol s1 s2 z) {ws:World} (hws:(ws,fun _=>True)∈ro) (hL:LD ws) (t:ByteArray) (hs:t.size≤200000000):Calls Tryz.prog 15 #[Pt y.x.pO,.string t] w (JO m y tol (aF s1 (aM t).1 (aM t).2).2 s2 l1 L ro (aF s1 (aM t).1 (aM t).2).1):=by
 obtain rfl:=hg.t1
 refine (mJ (L:=y.Lb++(dG y.pR y.pG y.tr z.RE s2.L.length++(bD y.pG z.RF s2.fs.length++L))) hm hg.g hws hL t hs (uV (by omega))).mono ?_
 rintro e w2 ⟨h1,q,h2,h3⟩
 exact ⟨h1,⟨q,z.RE,z.RF⟩,⟨h2,hg.E,hg.F,hg.d1.invoice (fun ln h=>(kw ln h).1),hg.d2,ni,hg.t2,hg.tr,hg.mb⟩,h3⟩
theorem ll (hm:Mem w (l1++y.own tol s2 z L) ro) (hg:JG m y tol s1 s2 z) (t:ByteArray) (hs:t.size≤200000000):Calls Tryz.prog 36 #[Pt y.pR,.string t] w (JO m y tol s1 (aF s2 (aM t).1 (aM t).2).2 l1 L ro (aF s2 (aM t).1 (aM t).2).1):=by
 have h:=r_Inv hg.F hg.d2.inv.ok (hg.t2.trans hg.tr) hg.E (d4 hm) t hs hg.op2 (by have:=hg.d2.len; omega)
 rw [(l4 hg.d2.inv (fun ln h=>(kw ln h).1)).1] at h
 refine h.mono ?_
 rintro e w2 ⟨h1,⟨RE,RF⟩,⟨h2,h3⟩,h4⟩
 exact ⟨h1,⟨z.q,RE,RF⟩,⟨hg.g,h2,h3,hg.d1,hg.d2.invoice (fun ln h=>(kw ln h).1),hg.t1,ni.trans hg.t2,hg.tr,hg.mb⟩,uW (s:=(aF s2 (aM t).1 (aM t).2).2) h4⟩
theorem AS (hm:Mem w (l1++y.own tol s2 z L) ro) (hg:JG m y tol s1 s2 z):Calls Tryz.prog 41 #[Pt y.pR] w fun e w'=>e=.returned (.string ⟨(cF (jG s2.L)).toArray⟩)∧Later w w':=r_EncO w (aa (vs:=[Pt y.pG,Vi y.tr,au z.RE s2.L.length]) (off:=2) (.head _) rfl w (d4 hm)) ((d4 hm).rowIn (fun p hp=>.tail _ (List.mem_append_left _ hp))) hg.E (by have:=hg.d2.len; omega) hg.d2.inv.ok.L
end
open Go.RowKit Go.PK
theorem tc (q0 q1:Int) (hq0:aj q0) (w:World) :
  Calls Tryz.prog 28 #[.int .i64 q0,.int .i64 q1] w fun e w'=>∃ u:Jx×Jq,e=.returned (.tuple #[.agg [Value.pointer (some ⟨u.1.x.pO,0,none⟩),.pointer (some ⟨u.1.x.pF,0,none⟩),.pointer (some ⟨u.1.pR,0,none⟩)].toArray,.bool true])∧JG (q0%5000) u.1 (min (max q1 0) 1000000) (⟨[(⟨1,0,⟨20000,0,0⟩⟩:FG),⟨2,1,⟨9000,0,0⟩⟩,⟨3,1,⟨(q0%5000),0,0⟩⟩],(min (max q1 0) 1000000),[]⟩:SG) (⟨[(⟨1,0,⟨20000,0,0⟩⟩:FG),⟨2,1,⟨9000,0,0⟩⟩,⟨3,1,⟨(q0%5000),0,0⟩⟩],(min (max q1 0) 1000000),[]⟩:SG) u.2∧Mem w' ([]++u.1.own (min (max q1 0) 1000000) (⟨[(⟨1,0,⟨20000,0,0⟩⟩:FG),⟨2,1,⟨9000,0,0⟩⟩,⟨3,1,⟨(q0%5000),0,0⟩⟩],(min (max q1 0) 1000000),[]⟩:SG) u.2 []) [(w,fun _=>True)]:=by
 have hop:opF [(⟨1,0,⟨20000,0,0⟩⟩:FG),⟨2,1,⟨9000,0,0⟩⟩,⟨3,1,⟨(q0%5000),0,0⟩⟩]:=opF.new (m:=q0%5000) rfl (by omega) (DOK.new (m:=q0%5000) (tol:=0) (by omega) (by decide)).inv.ok.fs
 refine enter (vs:=[.int .i64 q0,.int .i64 q1]) Tryz.func28 rfl Tryz.ntmps28 rfl ?_
 refine Rn [3,28,1,9,0] fun p4=>?_
 refine fq (τ:=Nat×ak) (fun z=>Value.pointer (some ⟨z.1,0,none⟩)) (fun z=>ag 5 z.2 3 (ax cD [(⟨1,0,⟨20000,0,0⟩⟩:FG),⟨2,1,⟨9000,0,0⟩⟩,⟨3,1,⟨(q0%5000),0,0⟩⟩])) (fun z=>([]++(bD z.1 z.2 3++[]))++[(p4,Obj.cells [Value.pointer (none),.pointer (none),.pointer (none)].toArray 64)]) rfl rfl rfl Tryz.func75 Zk rfl (fun w1 hw1=>(r_Money q0 w1 hq0).mono fun e w2 ⟨z,h1,h2,h3⟩=>⟨z,h1,h3.base (by simp),h2,hw1.join2 h3⟩) ?_
 rintro ⟨pG,RF⟩ hRF
 dsimp only at hRF
 refine Rn [1,2,5] ?_
 obtain ⟨E,hEs⟩:∃ E:ByteArray,(⟨(cF (er [(⟨1,0,⟨20000,0,0⟩⟩:FG),⟨2,1,⟨9000,0,0⟩⟩,⟨3,1,⟨(q0%5000),0,0⟩⟩])).toArray⟩:ByteArray)=E:=⟨_,rfl⟩
 refine Zr (Xm ?_)
 refine np (v:=Value.string E) rfl rfl rfl Tryz.func76 Zk rfl (fun w1 hw1=>by
  have h:=wn (pG:=pG) (R:=RF) (fs:=[(⟨1,0,⟨20000,0,0⟩⟩:FG),⟨2,1,⟨9000,0,0⟩⟩,⟨3,1,⟨(q0%5000),0,0⟩⟩]) w1 (aa (vs:=[au RF 3]) (.head _) rfl w1 hw1) (hw1.rowIn (fun p hp=>by simp [bD,hp])) hRF (by show 3≤5000; decide) hop.fg
  rw [hEs] at h; exact h) ?_
 refine fq (τ:=Nat×Nat×Nat×Array MapEntry×List FM×List (Nat×Obj)) (fun p=>.tuple #[.pointer (some ⟨p.1,0,none⟩),.int .i64 0]) (fun p=>MapC Tryz.prog 3 p.2.2.2.1 p.2.2.1 (cC p.2.2.2.2.1)∧bW p.2.2.2.2.1=[(⟨1,0,⟨20000,0,0⟩⟩:FG),⟨2,1,⟨9000,0,0⟩⟩,⟨3,1,⟨(q0%5000),0,0⟩⟩]) (fun p=>((p.1,Obj.cells (bP p.2.1 (fH [(⟨1,0,⟨20000,0,0⟩⟩:FG),⟨2,1,⟨9000,0,0⟩⟩,⟨3,1,⟨(q0%5000),0,0⟩⟩])).toArray 125)::(p.2.1,Obj.map p.2.2.2.1 p.2.2.1)::(FB 130 p.2.2.2.2.1++p.2.2.2.2.2))++(([]++(bD (pG,RF).1 (pG,RF).2 3++[]))++[(p4,Obj.cells [Value.pointer (none),.pointer (none),.pointer (none)].toArray 64)])) rfl rfl rfl Tryz.func47 Zk rfl (fun w1 hw1=>by
  have h:=AQ (m:=q0%5000) (fs:=[(⟨1,0,⟨20000,0,0⟩⟩:FG),⟨2,1,⟨9000,0,0⟩⟩,⟨3,1,⟨(q0%5000),0,0⟩⟩]) rfl w1 hop
  rw [hEs] at h
  exact h.mono fun e w2 ⟨p,h1,h2,h3,h4⟩=>⟨p,h1,h4.base (by simp),⟨h2,h3⟩,hw1.join2 h4⟩) ?_
 rintro ⟨pF,mF,ckF,esF,ms,Lb⟩ ⟨hMF,hms⟩
 dsimp only at hMF hms
 refine Xm ?_
 refine Xv rfl (eI rfl rfl) (Xv rfl (eI rfl rfl) ?_)
 refine Rn [1,1,9,0,0,0] ?_
 refine fq (τ:=Nat) (fun z=>Value.pointer (some ⟨z,0,none⟩)) (fun _=>True) (fun z=>[(z,Obj.cells [.pointer (some ⟨pG,0,none⟩),.int .i64 q1,au none 0].toArray 91)]++(((pF,Obj.cells (bP mF (fH [(⟨1,0,⟨20000,0,0⟩⟩:FG),⟨2,1,⟨9000,0,0⟩⟩,⟨3,1,⟨(q0%5000),0,0⟩⟩])).toArray 125)::(mF,Obj.map esF ckF)::(FB 130 ms++Lb))++(([]++(bD (pG,RF).1 (pG,RF).2 3++[]))++[(p4,Obj.cells [Value.pointer (none),.pointer (none),.pointer (none)].toArray 64)]))) rfl rfl rfl Tryz.func77 Zk rfl (fun w1 hw1=>(r_NewO (pG:=pG) q1 w1).mono fun e w2 ⟨z,h1,h2⟩=>⟨z,h1,h2.base (by simp),trivial,hw1.join2 h2⟩) fun pR _=>?_
 refine Xv (v:=Value.agg [Value.pointer (none),.pointer (some ⟨pF,0,none⟩),.pointer (some ⟨pR,0,none⟩)].toArray) rfl (aH (cs:=[Value.pointer (none),.pointer (some ⟨pF,0,none⟩),.pointer (some ⟨pR,0,none⟩)]) (places:=[(0,1),(1,1),(2,1)]) u64 zr64 Zk rfl rfl) ?_
 refine Rn [28,32,2,5,3,0,37,2] fun p9 b24 hb24=>?_
 refine rq rfl (fun hc24=>?_) (fun hc24=>?_)
 ·exfalso
  rw [hb24] at hc24
  revert hc24; simp
 refine Rn [23,0,0] ?_
 refine fq (τ:=Nat×Nat) (fun z=>Value.pointer (some ⟨z.1,0,none⟩)) (fun _=>True) (fun z=>[(z.1,Obj.cells (cJ pF (min (max q1 0) 1000000) z.2).toArray 38),(z.2,Obj.map #[] 0)]++((p9,Obj.cells [Value.pointer (none),.pointer (some ⟨pF,0,none⟩),.pointer (some ⟨pR,0,none⟩)].toArray 64)::([(pR,Obj.cells [.pointer (some ⟨pG,0,none⟩),.int .i64 q1,au none 0].toArray 91)]++(((pF,Obj.cells (bP mF (fH [(⟨1,0,⟨20000,0,0⟩⟩:FG),⟨2,1,⟨9000,0,0⟩⟩,⟨3,1,⟨(q0%5000),0,0⟩⟩])).toArray 125)::(mF,Obj.map esF ckF)::(FB 130 ms++Lb))++(([]++(bD (pG,RF).1 (pG,RF).2 3++[]))++[(p4,Obj.cells [Value.pointer (none),.pointer (none),.pointer (none)].toArray 64)]))))) rfl rfl rfl Tryz.func17 Zk rfl (fun w1 hw1=>(Ar q1 w1).mono fun e w2 ⟨z,h1,h2⟩=>⟨z,h1,h2.base (by simp),trivial,hw1.join2 h2⟩) ?_
 rintro ⟨pO,mO⟩ _
 refine Rn [4] ?_
 refine aG (cs:=[Value.pointer (none),.pointer (some ⟨pF,0,none⟩),.pointer (some ⟨pR,0,none⟩)]) (off:=0) (e:=64) (l2:=[(pR,Obj.cells [.pointer (some ⟨pG,0,none⟩),.int .i64 q1,au none 0].toArray 91)]++(((pF,Obj.cells (bP mF (fH [(⟨1,0,⟨20000,0,0⟩⟩:FG),⟨2,1,⟨9000,0,0⟩⟩,⟨3,1,⟨(q0%5000),0,0⟩⟩])).toArray 125)::(mF,Obj.map esF ckF)::(FB 130 ms++Lb))++(([]++(bD (pG,RF).1 (pG,RF).2 3++[]))++[(p4,Obj.cells [Value.pointer (none),.pointer (none),.pointer (none)].toArray 64)]))) [(pO,Obj.cells (cJ pF (min (max q1 0) 1000000) mO).toArray 38),(mO,Obj.map #[] 0)] rfl rfl rfl rfl Ao rfl (by show 0+1≤3; decide) ?_
 refine Rn [2,5] ?_
 refine dY (own':=(p9,Obj.cells [Value.pointer (some ⟨pO,0,none⟩),.pointer (some ⟨pF,0,none⟩),.pointer (some ⟨pR,0,none⟩)].toArray 64)::(p4,Obj.cells [Value.pointer (none),.pointer (none),.pointer (none)].toArray 64)::(pO,Obj.cells (cJ pF (min (max q1 0) 1000000) mO).toArray 38)::(mO,Obj.map #[] 0)::(mF,Obj.map esF ckF)::(pF,Obj.cells (bP mF (fH [(⟨1,0,⟨20000,0,0⟩⟩:FG),⟨2,1,⟨9000,0,0⟩⟩,⟨3,1,⟨(q0%5000),0,0⟩⟩])).toArray 125)::(FB 130 ms++(Lb++((pR,Obj.cells [.pointer (some ⟨pG,0,none⟩),.int .i64 q1,au none 0].toArray 91)::(bD pG RF 3++[]))))) (ro':=[(w,fun _=>True)]) (fun w1 h=>h.perm (Ak (fun p=>by simp only [List.countP_append,List.countP_cons,List.countP_nil,Nat.add_zero,Nat.zero_add]; ac_rfl))) ?_
 refine cL ([(p9,Obj.cells [Value.pointer (some ⟨pO,0,none⟩),.pointer (some ⟨pF,0,none⟩),.pointer (some ⟨pR,0,none⟩)].toArray 64)]) 6 (.flt 0 (.flt 1 (.flt 2 (.flt 3 (.gr 4 (.flt 5 .done) .nil))))) (.cons_cons _ (List.nil_sublist _)) Zk Zk ?_
 refine Rn [84,41,49] ?_
 refine dq (v:=Value.bool true) rfl rfl (Ac (p:=some ⟨pO,0,none⟩) AD rfl rfl) ?_
 refine Rn [42] ?_
 refine bX [(p9,Obj.cells [Value.pointer (some ⟨pO,0,none⟩),.pointer (some ⟨pF,0,none⟩),.pointer (some ⟨pR,0,none⟩)].toArray 64)] rfl rfl rfl rfl rQ rfl rfl ?_
 refine Ze ?_
 refine dK (.cons_cons _ (List.nil_sublist _)) ?_
 refine Rn [55,56,2,6] ?_
 have D:=DOK.new (m:=q0%5000) (tol:=(min (max q1 0) 1000000)) (by omega) (by omega)
 exact yo (cs:=[Value.pointer (some ⟨pO,0,none⟩),.pointer (some ⟨pF,0,none⟩),.pointer (some ⟨pR,0,none⟩)].toArray) rfl rfl rfl (.tail _ (.head _)) u64 rfl rQ (fun w' hm=>⟨((⟨(⟨pO,pF,mF,ckF,esF,fH [(⟨1,0,⟨20000,0,0⟩⟩:FG),⟨2,1,⟨9000,0,0⟩⟩,⟨3,1,⟨(q0%5000),0,0⟩⟩]⟩:Fx),pR,pG,q1,Lb⟩:Jx),(⟨⟨mO,0,#[],ms⟩,none,RF⟩:Jq)),rfl,⟨⟨hMF,by show MapC _ _ #[] 0 (fR []); rw [xJ]; exact MapC.empty,hms,D.inv.ok⟩,bG,hRF,D,D,rfl,rfl,rfl,by omega⟩,hm.less ((List.sublist_cons_self _ _).trans (List.sublist_cons_self _ _)) (fun _ h=>h)⟩)
open Go.RowKit Go.PK
theorem r_chg (p n:Int) (w:World) (hp:0≤p∧p≤1000000000) (hn:aj n) :
  Calls Tryz.prog 83 #[Vi p,Vi n] w fun e w'=>e=.returned (Vi (ce p n))∧Later w w':=by
 refine enter Tryz.func83 rfl Tryz.ntmps83 rfl ?_
 refine Rn [3,1,2,5,3,0] ?_
 refine Xc (v:=Vi (n%6)) rfl Tryz.func43 rfl (fun w1 hw1=>ix n 6 w1 hn (by decide)) ?_
 have hm6:=cN n (m:=6) (by decide)
 refine Rn [2,14,5,3,38,1,2,12] fun b8 hb8=>Aw (fun hc7=>?_) fun hc7=>?_
 ·refine Rn [16,10] (Aw (fun hc7=>?_) fun hc7=>?_)
  ·simp only [hb8,Qz,ne_eq] at hc7
   refine Rn [3,0,1,2,6,15,8] ?_
   refine aw rfl rfl (fun w' hm=>⟨?_,hm.b⟩)
   congr 2; unfold ce; repeat' split
   all_goals omega
  simp only [hb8,Qz,ne_eq] at hc7
  refine Rn [3,38,1,2,12] fun b12 hb12=>Aw (fun hc11=>?_) fun hc11=>?_
  ·refine Rn [3,0,0] ?_
   refine Xv (v:=Vi (p / 20)) rfl (iq (c:=p / 20) rfl rfl (by decide) (by rw [Int.tdiv_eq_ediv_of_nonneg hp.1]) (by omega)) ?_
   refine Rn [26,1,2,6,15,8] ?_
   refine aw rfl rfl (fun w' hm=>⟨?_,hm.b⟩)
   congr 2; unfold ce; repeat' split
   all_goals omega
  refine Rn [3,38,1,2,12] fun b18 hb18=>Aw (fun hc17=>?_) fun hc17=>?_
  ·refine Rn [3,0,0] ?_
   refine Xv (v:=Vi (p / 20)) rfl (iq (c:=p / 20) rfl rfl (by decide) (by rw [Int.tdiv_eq_ediv_of_nonneg hp.1]) (by omega)) ?_
   refine Rn [54] ?_
   refine Xv rfl (kG rfl rfl) ?_
   refine Rn [1,2,6,15,8] ?_
   refine aw rfl rfl (fun w' hm=>⟨?_,hm.b⟩)
   congr 2; unfold ce; repeat' split
   all_goals omega
  refine Rn [3,38,1,2,12] fun b25 hb25=>Aw (fun hc24=>?_) fun hc24=>?_
  ·refine Rn [3,0,0] ?_
   refine Xv (v:=Vi (p / 20)) rfl (iq (c:=p / 20) rfl rfl (by decide) (by rw [Int.tdiv_eq_ediv_of_nonneg hp.1]) (by omega)) ?_
   refine Rn [26,26,1,2,6,15,8] ?_
   refine aw rfl rfl (fun w' hm=>⟨?_,hm.b⟩)
   congr 2; unfold ce; repeat' split
   all_goals omega
  refine Rn [45,27,17,3,0,0] ?_
  refine Xc (v:=Vi (n%90)) rfl Tryz.func43 rfl (fun w1 hw1=>ix n 90 w1 hn (by decide)) ?_
  have hm33:=cN n (m:=90) (by decide)
  refine Rn [54] ?_
  refine Xv rfl (kG rfl rfl) ?_
  refine Rn [1,2,6] ?_
  refine aw rfl rfl (fun w' hm=>⟨?_,hm.b⟩)
  congr 2; unfold ce; repeat' split
  all_goals omega
 refine Rn [18,38,1,2,12] fun b9 hb9=>Aw (fun hc7=>?_) fun hc7=>?_
 ·refine Rn [3,0,1,2,6,15,8] ?_
  refine aw rfl rfl (fun w' hm=>⟨?_,hm.b⟩)
  congr 2; unfold ce; repeat' split
  all_goals omega
 refine Rn [3,38,1,2,12] fun b12 hb12=>Aw (fun hc11=>?_) fun hc11=>?_
 ·refine Rn [3,0,0] ?_
  refine Xv (v:=Vi (p / 20)) rfl (iq (c:=p / 20) rfl rfl (by decide) (by rw [Int.tdiv_eq_ediv_of_nonneg hp.1]) (by omega)) ?_
  refine Rn [26,1,2,6,15,8] ?_
  refine aw rfl rfl (fun w' hm=>⟨?_,hm.b⟩)
  congr 2; unfold ce; repeat' split
  all_goals omega
 refine Rn [3,38,1,2,12] fun b18 hb18=>Aw (fun hc17=>?_) fun hc17=>?_
 ·refine Rn [3,0,0] ?_
  refine Xv (v:=Vi (p / 20)) rfl (iq (c:=p / 20) rfl rfl (by decide) (by rw [Int.tdiv_eq_ediv_of_nonneg hp.1]) (by omega)) ?_
  refine Rn [54] ?_
  refine Xv rfl (kG rfl rfl) ?_
  refine Rn [1,2,6,15,8] ?_
  refine aw rfl rfl (fun w' hm=>⟨?_,hm.b⟩)
  congr 2; unfold ce; repeat' split
  all_goals omega
 refine Rn [3,38,1,2,12] fun b25 hb25=>Aw (fun hc24=>?_) fun hc24=>?_
 ·refine Rn [3,0,0] ?_
  refine Xv (v:=Vi (p / 20)) rfl (iq (c:=p / 20) rfl rfl (by decide) (by rw [Int.tdiv_eq_ediv_of_nonneg hp.1]) (by omega)) ?_
  refine Rn [26,26,1,2,6,15,8] ?_
  refine aw rfl rfl (fun w' hm=>⟨?_,hm.b⟩)
  congr 2; unfold ce; repeat' split
  all_goals omega
 refine Rn [45,27,17,3,0,0] ?_
 refine Xc (v:=Vi (n%90)) rfl Tryz.func43 rfl (fun w1 hw1=>ix n 90 w1 hn (by decide)) ?_
 have hm33:=cN n (m:=90) (by decide)
 refine Rn [54] ?_
 refine Xv rfl (kG rfl rfl) ?_
 refine Rn [1,2,6] ?_
 refine aw rfl rfl (fun w' hm=>⟨?_,hm.b⟩)
 congr 2; unfold ce; repeat' split
 all_goals omega
theorem r_Reply {pR:Nat} (k0 a b c:Int) (ha:aj a) (hb:aj b) (hc:aj c) {R:ak} {es:List EN} (w:World) (h1:w.cell? ⟨pR,2,none⟩=some (au R es.length)) (hin:rowIn w 144 R) (hR:ag 10 R es.length (ax du es)) (hsm:∀ e∈es,pJ e) :
  Calls Tryz.prog 33 #[Pt pR,.agg [Vi k0,Vi a,Vi b,Vi c].toArray] w fun e w'=>∃ t:ByteArray,e=.returned (.string t)∧Later w w'∧t.size≤150000000:=by
 refine enter Tryz.func33 rfl Tryz.ntmps33 rfl ?_
 refine Rn [3,36,1,9,152,7] fun p3=>?_
 refine Xc (v:=Vi (a%6)) rfl Tryz.func43 rfl (fun w1 hw1=>ix a 6 w1 ha (by decide)) ?_
 have hm11:=cN a (m:=6) (by decide)
 refine Rn [26] ?_
 refine Xv (v:=Value.agg (⟨1+a%6,1,0,0,1,100,0,0,0⟩:PK.Ord).cells.toArray) rfl (aH (cs:=(⟨1+a%6,1,0,0,1,100,0,0,0⟩:PK.Ord).cells) (places:=[(0,1),(1,1),(2,2),(4,1),(5,1),(6,1),(7,1),(8,1)]) f4 gI Zk rfl rfl) ?_
 refine Rn [28,32,9,0,152,7] fun p5=>?_
 refine Xc rfl Tryz.func82 rfl (fun w1 hw1=>dU (id:=1+a%6) w1 (an (.head _) trivial h1 w1 hw1) (hin.later hw1.b) hR) ?_
 refine Rn [1,2] ?_
 refine cO (σ:=PK.Ord) (fun x=>midO x) (fun x=>[(3,Pt p3),(5,Pt p5)]) (fun x=>(Bk p5 x.cells 25)::[(Bk p3 [Vi k0,Vi a,Vi b,Vi c] 42)]) (fun x=>[(w,fun _=>True)]) ?_ ?_
 ·refine Rn [3,0,57,2,12] fun b19 hb19=>Aw (fun hc19=>?_) fun hc19=>?_
  ·obtain ⟨k,hk,hix⟩:=yj (es:=es) (id:=1+a%6) (by omega)
   rw [hix]
   obtain ⟨b2,cs2,c2,rfl⟩:=bN bf (by decide) hR hk
   have hs:=hsm _ (List.getElem_mem hk)
   unfold pJ at hs
   have hch:=pC (p:=es[k].2) (by omega) c
   refine Rn [3,0,11,152] ?_
   refine Xl rfl mW rfl (an (.head _) trivial h1) ?_
   refine Rn [0,46,152] ?_
   refine Xv rfl (bj (vs:=es[k].1.cells) f4 rfl cm rfl (fun i hi=>an (.head _) trivial (hin.cell (cg bf hR hk (j:=i) (by rw [show du es[k]=es[k].1.cells++[Vi es[k].2] from rfl,List.getElem?_append_left hi]; exact List.getElem?_eq_getElem hi))))) ?_
   refine Rn [32,2,5] ?_
   refine bc 12 ?_
   refine Rn [0,11,152] ?_
   refine Xl rfl mW rfl (an (.head _) trivial h1) ?_
   refine Rn [0,46,152] ?_
   refine Xl rfl u3 rfl (an (.head _) trivial (hin.cell (cg bf hR hk (j:=9) rfl))) ?_
   refine Rn [152,7] ?_
   refine Xc rfl Tryz.func83 rfl (fun w1 hw1=>r_chg es[k].2 c w1 (by omega) hc) ?_
   refine Rn [152] ?_
   refine aG (cs:=es[k].1.cells) (off:=5) (e:=25) (l2:=[(Bk p3 [Vi k0,Vi a,Vi b,Vi c] 42)]) [] rfl rfl rfl rfl cT rfl (by show 5+1≤9; decide) ?_
   refine Rn [2,5] ?_
   refine bc 9 ?_
   refine Rn [152] ?_
   refine Xl rfl u3 rfl (aa (vs:=({ es[k].1 with price:=ce es[k].2 c }:PK.Ord).cells) (v:=Vi es[k].1.copies) (.head _) rfl) ?_
   refine Rn [152] ?_
   refine Xl rfl u3 rfl (aa (vs:=[Vi k0,Vi a,Vi b,Vi c]) (.tail _ (.head _)) rfl) (Xc (v:=Vi (b%4)) rfl Tryz.func43 rfl (fun w1 hw1=>ix b 4 w1 hb (by decide)) ?_)
   have hm44:=cN b (m:=4) (by decide)
   refine Rn [54,26] ?_
   refine Xv (v:=Vi (max (es[k].1.copies - b%4+1) 1)) rfl (kG rfl rfl) ?_
   refine Rn [152] ?_
   refine aG (cs:=({ es[k].1 with price:=ce es[k].2 c }:PK.Ord).cells) (off:=4) (e:=25) (l2:=[(Bk p3 [Vi k0,Vi a,Vi b,Vi c] 42)]) [] rfl rfl rfl rfl cT rfl (by show 4+1≤9; decide) ?_
   refine Rn [9,152] ?_
   refine Xl rfl u3 rfl (aa (vs:=[Vi k0,Vi a,Vi b,Vi c]) (.tail _ (.head _)) rfl) (Xv rfl (jL rfl rfl Zo) ?_)
   refine Rn [37,2,12] fun b52 hb52=>Aw (fun hc52=>?_) fun hc52=>?_
   ·refine Rn [18,0,11,152] ?_
    refine Xl rfl mW rfl (an (.head _) trivial h1) ?_
    refine Rn [0,46,152,152] ?_
    refine Xl rfl u3 rfl (an (.head _) trivial (hin.cell (cg bf hR hk (j:=4) rfl))) ?_
    refine Rn [152] ?_
    refine aG (cs:=({ es[k].1 with price:=ce es[k].2 c,copies:=max (es[k].1.copies - b%4+1) 1 }:PK.Ord).cells) (off:=4) (e:=25) (l2:=[(Bk p3 [Vi k0,Vi a,Vi b,Vi c] 42)]) [] rfl rfl rfl rfl cT rfl (by show 4+1≤9; decide) ?_
    refine Ze ?_
    exact cv ({ es[k].1 with price:=ce es[k].2 c,copies:=es[k].1.copies }:PK.Ord) (by unfold midO; dsimp only; omega) Zu (fun _ h=>h)
   refine eA ?_
   exact cv ({ es[k].1 with price:=ce es[k].2 c,copies:=max (es[k].1.copies - b%4+1) 1 }:PK.Ord) (by unfold midO; dsimp only; omega) Zu (fun _ h=>h)
  refine eA ?_
  exact cv (⟨1+a%6,1,0,0,1,100,0,0,0⟩:PK.Ord) (by unfold midO; dsimp only; omega) Zu (fun _ h=>h)
 rintro x hx
 refine cO (σ:=PK.Ord) (fun x=>x.ok∧(0≤x.fund∧x.fund≤10)) (fun x=>[(3,Pt p3),(5,Pt p5)]) (fun x=>(Bk p5 x.cells 25)::[(Bk p3 [Vi k0,Vi a,Vi b,Vi c] 42)]) (fun x=>[(w,fun _=>True)]) ?_ ?_
 ·refine Zs ?_
  unfold midO at hx
  refine Rn [18,152,7] ?_
  refine Xv rfl (jL rfl rfl Zo) ?_
  refine Rn [38,2,12] fun b66 hb66=>Aw (fun hc66=>?_) fun hc66=>?_
  ·refine Rn [18,152,152,7,26,152,152] ?_
   refine aG (cs:=x.cells) (off:=3) (e:=25) (l2:=[(Bk p3 [Vi k0,Vi a,Vi b,Vi c] 42)]) [] rfl rfl rfl rfl cT rfl (by show 3+1≤9; decide) ?_
   refine Ze ?_
   exact cv { x with num:=x.num+1 } ⟨(by unfold PK.Ord.ok aj; dsimp only; omega),by dsimp only; omega⟩ Zu (fun _ h=>h)
  refine eA ?_
  exact cv x ⟨by unfold PK.Ord.ok aj; omega,by omega⟩ Zu (fun _ h=>h)
 rintro x hx
 refine cO (σ:=PK.Ord) (fun x=>x.ok) (fun x=>[(3,Pt p3),(5,Pt p5)]) (fun x=>(Bk p5 x.cells 25)::[(Bk p3 [Vi k0,Vi a,Vi b,Vi c] 42)]) (fun x=>[(w,fun _=>True)]) ?_ ?_
 ·refine Zs ?_
  obtain ⟨hx,hf⟩:=hx
  refine Rn [18,152,7] ?_
  refine Xv rfl (jL rfl rfl Zo) ?_
  refine Rn [38,2,12] fun b76 hb76=>Aw (fun hc76=>?_) fun hc76=>?_
  ·unfold PK.Ord.ok aj at hx
   refine Rn [18,152,7,26,152] ?_
   refine aG (cs:=x.cells) (off:=1) (e:=25) (l2:=[(Bk p3 [Vi k0,Vi a,Vi b,Vi c] 42)]) [] rfl rfl rfl rfl cT rfl (by show 1+1≤9; decide) ?_
   refine Ze ?_
   exact cv { x with fund:=x.fund+1 } (by unfold PK.Ord.ok aj; dsimp only; omega) Zu (fun _ h=>h)
  refine eA ?_
  exact cv x hx Zu (fun _ h=>h)
 rintro x hx
 refine Rn [3,39] ?_
 refine Xd (R:=fun v wa wb=>ab aZ (fun b=>wa.heap.size≤b) wb v (aU x)) rfl Tryz.func84 rfl (fun w1 hw1=>(ow x w1 hx).mono fun e w2 ⟨v,h1,h2,h3,_⟩=>⟨_,h1,h2,h3⟩) fun v83 wa83 wb83 hm83 hl83 hR83=>?_
 refine Xc (v:=Value.tuple #[.string ⟨(fX (aU x)).toArray⟩,Vi 0]) rfl Tryz.func25 rfl (fun w1 hw1=>by
  have h:=jV (l:=aU x) w1 (bY hR83 hw1 Zh hm83) (by have h2:(fX (aU x)).toArray.size≤150000000:=(lm x).2; rw [List.size_toArray] at h2; omega)
  rw [(lm x).1] at h; exact h) ?_
 refine Rn [0,20,20,1,1,9,0,1,2,6] ?_
 exact aw rfl rfl (fun w' hm=>⟨_,rfl,hm.b,(lm x).2⟩)
theorem lp {ls:List PK.Ord} {t:ByteArray} (h:∀ o∈ls,ej (pf o)) (hn:ls.length≤10) (ht:t.size≤100):u6 (bo ls t)=(⟨(fX (bo ls t)).toArray⟩,0)∧(⟨(fX (bo ls t)).toArray⟩:ByteArray).size≤150000000∧True:=⟨(rm h hn ht).1,(rm h hn ht).2,trivial⟩
theorem mQ {ls:List PK.Ord} (h:∀ o∈ls,ej (pf o)) (hn:ls.length≤10):u6 (bH ls)=(⟨(fX (bH ls)).toArray⟩,0)∧(⟨(fX (bH ls)).toArray⟩:ByteArray).size≤150000000∧True:=⟨(inv_text hn h).1,inv_size hn h,trivial⟩
theorem r_Bill {pR:Nat} (k0 a b c:Int) (ha:aj a) (hb:aj b) (hc:aj c) {R:ak} {es:List EN} (w:World) (h1:w.cell? ⟨pR,2,none⟩=some (au R es.length)) (hin:rowIn w 144 R) (hR:ag 10 R es.length (ax du es)) (hsm:∀ e∈es,pJ e) (hen:∀ e∈es,xC e) :
  Calls Tryz.prog 34 #[Pt pR,.agg [Vi k0,Vi a,Vi b,Vi c].toArray] w fun e w'=>∃ t:ByteArray,e=.returned (.string t)∧Later w w'∧t.size≤150000000:=by
 refine enter Tryz.func34 rfl Tryz.ntmps34 rfl ?_
 refine Rn [3,36,1,9,1,2,5,3,1,2,14] fun p3=>?_
 refine aO (σ:=Nat×ak×List PK.Ord) (fun z=>(z.1:Int)≤1+b%3∧z.1=z.2.2.length∧ag 9 z.2.1 z.1 (po z.2.2)∧∀ x∈z.2.2,lnK x) (fun z=>[(0,Pt pR),(3,Pt p3),(5,au z.2.1 z.1),(6,Vi (z.1:Nat))]) (fun z=>(Bk p3 [Vi k0,Vi a,Vi b,Vi c] 42)::aA 25 z.2.1) (fun z=>[(w,fun _=>True)]) (fun z=>4 - z.1) ((0,none,[])) (⟨by show (0:Int)≤_; omega,rfl,bG,fun x h=>by cases h⟩) (aC Zu (fun _ h=>h)) ?_
 rintro ⟨k,R,xs⟩ ⟨hkL,hln,hR2,hxs⟩
 refine Rn [144] ?_
 dsimp only at hkL hln hR2 hxs
 refine Rn [5,3,0,152,7] ?_
 refine Xc (v:=Vi (b%3)) rfl Tryz.func43 rfl (fun w1 hw1=>ix b 3 w1 hb (by decide)) ?_
 have hm15:=cN b (m:=3) (by decide)
 refine Rn [26,24,2,12] fun b17 hb17=>Aw (fun hc17=>?_) fun hc17=>?_
 ·refine Rn [16,5,14,3,152,7,0,152,7] ?_
  refine Xv rfl (v_mul rfl rfl) (Xv rfl (v_add rfl rfl) ?_)
  obtain ⟨q,hq⟩:∃ q,IntKind.i64.wrap (a+IntKind.i64.wrap ((k:Nat)*c))=q:=⟨_,rfl⟩
  rw [hq]
  have hqi:aj q:=hq▸wrap_rng _
  refine Xc (v:=Vi (q%6)) rfl Tryz.func43 rfl (fun w1 hw1=>ix q 6 w1 hqi (by decide)) ?_
  have hm27:=cN q (m:=6) (by decide)
  refine Rn [26] ?_
  refine Xv (v:=Value.agg (⟨1+q%6,0,0,0,1,100,0,0,0⟩:PK.Ord).cells.toArray) rfl (aH (cs:=(⟨1+q%6,0,0,0,1,100,0,0,0⟩:PK.Ord).cells) (places:=[(0,1),(1,1),(2,2),(4,1),(5,1),(6,1),(7,1),(8,1)]) f4 gI Zk rfl rfl) ?_
  refine Rn [28,32,9,0,152,7] fun p7=>?_
  refine Xc rfl Tryz.func82 rfl (fun w1 hw1=>dU (id:=1+q%6) w1 (an (.head _) trivial h1 w1 hw1) (hin.later hw1.b) hR) ?_
  refine Rn [1,2] ?_
  refine cO (σ:=PK.Ord) (fun x=>lnM x) (fun x=>[(0,Pt pR),(3,Pt p3),(5,au R k),(6,Vi (k:Nat)),(7,Pt p7)]) (fun x=>(Bk p7 x.cells 25)::(Bk p3 [Vi k0,Vi a,Vi b,Vi c] 42)::aA 25 R) (fun x=>[(w,fun _=>True)]) ?_ ?_
  ·refine Rn [3,0,57,2,12] fun b35 hb35=>Aw (fun hc35=>?_) fun hc35=>?_
   ·obtain ⟨j,hj,hix⟩:=yj (es:=es) (id:=1+q%6) (by omega)
    rw [hix]
    obtain ⟨b2,cs2,c2,rfl⟩:=bN bf (by decide) hR hj
    have hs:=hsm _ (List.getElem_mem hj)
    have hn:=hen _ (List.getElem_mem hj)
    unfold pJ at hs
    unfold xC dm at hn
    have hch:=pC (p:=es[j].1.price) (by omega) (c.tdiv 3+(k:Nat))
    have hq3:-4611686018427387904≤c.tdiv 3∧c.tdiv 3≤4611686018427387904   := tdiv3_b hc
    have hkb:(k:Int)≤3:=by omega
    refine Rn [3,0,11,152] ?_
    refine Xl rfl mW rfl (an (.head _) trivial h1) ?_
    refine Rn [0,46,152] ?_
    refine Xv rfl (bj (vs:=es[j].1.cells) f4 rfl cm rfl (fun i hi=>an (.head _) trivial (hin.cell (cg bf hR hj (j:=i) (by rw [show du es[j]=es[j].1.cells++[Vi es[j].2] from rfl,List.getElem?_append_left hi]; exact List.getElem?_eq_getElem hi))))) ?_
    refine Rn [32,2,5] ?_
    refine bc 11 ?_
    refine Rn [152,7,152,7,54,152,7] ?_
    refine Xc (v:=Vi (c%3)) rfl Tryz.func43 rfl (fun w1 hw1=>ix c 3 w1 hc (by decide)) ?_
    have hm51:=cN c (m:=3) (by decide)
    refine Rn [54] ?_
    refine Xv (v:=Vi (max (es[j].1.st - es[j].1.paid - c%3) 1)) rfl (kG rfl rfl) ?_
    refine Rn [152] ?_
    refine aG (cs:=es[j].1.cells) (off:=4) (e:=25) (l2:=(Bk p3 [Vi k0,Vi a,Vi b,Vi c] 42)::aA 25 R) [] rfl rfl rfl rfl cT rfl (by show 4+1≤9; decide) ?_
    refine Rn [2] ?_
    refine bc 16 ?_
    refine Rn [0,11,152] ?_
    refine Xl rfl mW rfl (an (.head _) trivial h1) ?_
    refine Rn [0,46,152,152] ?_
    refine Xl rfl u3 rfl (an (.head _) trivial (hin.cell (cg bf hR hj (j:=5) rfl))) ?_
    refine Rn [152] ?_
    refine Xl rfl u3 rfl (aa (vs:=[Vi k0,Vi a,Vi b,Vi c]) (.tail _ (.head _)) rfl) (Xv (v:=Vi (c.tdiv 3)) rfl (iq (c:=c.tdiv 3) rfl rfl (by decide) rfl (by omega)) ?_)
    refine Rn [0,26] ?_
    refine Xc rfl Tryz.func83 rfl (fun w1 hw1=>r_chg es[j].1.price (c.tdiv 3+(k:Nat)) w1 (by omega) (by unfold aj; omega)) ?_
    refine Rn [152] ?_
    refine aG (cs:=({ es[j].1 with copies:=max (es[j].1.st - es[j].1.paid - c%3) 1 }:PK.Ord).cells) (off:=5) (e:=25) (l2:=(Bk p3 [Vi k0,Vi a,Vi b,Vi c] 42)::aA 25 R) [] rfl rfl rfl rfl cT rfl (by show 5+1≤9; decide) ?_
    refine Ze ?_
    exact cv ({ es[j].1 with copies:=max (es[j].1.st - es[j].1.paid - c%3) 1,price:=ce es[j].1.price (c.tdiv 3+(k:Nat)) }:PK.Ord) (by unfold lnM PK.Ord.okA PK.Ord.ok aj; dsimp only; omega) Zu (fun _ h=>h)
   refine eA ?_
   exact cv (⟨1+q%6,0,0,0,1,100,0,0,0⟩:PK.Ord) (by unfold lnM PK.Ord.okA PK.Ord.ok aj; dsimp only; omega) Zu (fun _ h=>h)
  rintro x hx
  refine Zs ?_
  unfold lnM PK.Ord.okA PK.Ord.ok aj at hx
  refine Rn [18,152] ?_
  refine aG (cs:=x.cells) (off:=1) (e:=25) (l2:=(Bk p3 [Vi k0,Vi a,Vi b,Vi c] 42)::aA 25 R) [] rfl rfl rfl rfl cT rfl (by show 1+1≤9; decide) ?_
  refine Rn [2] ?_
  refine cO (σ:=PK.Ord) (fun x=>lnK x) (fun x=>[(0,Pt pR),(3,Pt p3),(5,au R k),(6,Vi (k:Nat)),(7,Pt p7)]) (fun x=>(Bk p7 x.cells 25)::(Bk p3 [Vi k0,Vi a,Vi b,Vi c] 42)::aA 25 R) (fun x=>[(w,fun _=>True)]) ?_ ?_
  ·refine Rn [3,152,7] ?_
   refine Xv rfl (jL rfl rfl Zo) ?_
   refine Rn [38,2,12] fun b75 hb75=>Aw (fun hc75=>?_) fun hc75=>?_
   ·refine Rn [18,152,152,7,26,152,152] ?_
    refine aG (cs:=({ x with fund:=1 }:PK.Ord).cells) (off:=3) (e:=25) (l2:=(Bk p3 [Vi k0,Vi a,Vi b,Vi c] 42)::aA 25 R) [] rfl rfl rfl rfl cT rfl (by show 3+1≤9; decide) ?_
    refine Ze ?_
    exact cv { x with fund:=1,num:=x.num+1 } (by unfold lnK PK.Ord.okA PK.Ord.ok ej pf aj; dsimp only; omega) Zu (fun _ h=>h)
   refine eA ?_
   exact cv { x with fund:=1 } (by unfold lnK PK.Ord.okA PK.Ord.ok ej pf aj; dsimp only; omega) Zu (fun _ h=>h)
  rintro x hx
  refine Rn [18,0,39] ?_
  refine ac (cs:=x.cells) rfl rfl rfl qx cm gI rfl rfl rfl ?_
  intro p84
  refine be (e:=25) [(Bk p84 x.cells 25),(Bk p7 x.cells 25),(Bk p3 [Vi k0,Vi a,Vi b,Vi c] 42)] (l2:=[]) R (len:=k) (xs:=po xs) rfl rfl rfl rfl (by simp) hR2 qx apO rfl rfl (m:=1) (news:=x.cells) (fun i hi=>aa (vs:=x.cells) (.head _) (by rw [Nat.zero_add]; exact List.getElem?_eq_getElem hi)) rfl Zx (by omega) fun R' hR'=>?_
  refine Rn [1,13,27,17,18,0,26,1,13] ?_
  exact aJ (k+1,R',xs++[x]) ⟨by push_cast; omega,by rw [List.length_append,hln]; rfl,by show ag 9 R' (k+1) (po (xs++[x])); rw [wt]; exact hR',fun y hy=>by
   rcases List.mem_append.1 hy with hy | hy
   ·exact hxs y hy
   rw [List.mem_singleton.1 hy]; exact hx⟩ (by simp only; omega) Zu (fun w1 h=>(h.less (Ls.trans Ls) (fun _ h=>h)).to (by simp))
 have hxl:1≤xs.length∧xs.length≤3:=by omega
 have hwr:∀ o∈xs,ej (pf o):=fun o ho=>(hxs o ho).2
 refine Rn [34,19,19,35,17,3,0] ?_
 refine Xd (R:=fun v wa wb=>ab aZ (fun b=>wa.heap.size≤b) wb v (bH xs)) rfl Tryz.func26 rfl (fun w1 hw1=>(oL (ls:=xs) w1 (x6 (D:=fun _=>True) (e:=25) hR2 hln (fun x hx=>(hxs x hx).1) hw1 (fun p hp=>by simp [hp]) (fun _ _=>trivial))).mono fun e w2 ⟨v,h1,h2,h3⟩=>⟨_,h1,h2,h3⟩) fun v87 wa87 wb87 hm87 hl87 hR87=>?_
 refine Rn [1,2,5,3,152,7] ?_
 refine Xv rfl (jL rfl rfl Zo) ?_
 refine Rn [38,2,12] fun b91 hb91=>Aw (fun hc91=>?_) fun hc91=>?_
 ·refine Zr (Xm ?_)
  refine Xd (R:=fun v wa wb=>ab aZ (fun b=>wa.heap.size≤b) wb v (bo xs ⟨#[49]⟩)) rfl Tryz.func72 rfl (fun w1 hw1=>(vE (ls:=xs) w1 (x6 (D:=fun _=>True) (e:=25) hR2 hln (fun x hx=>(hxs x hx).1) hw1 (fun p hp=>by simp [hp]) (fun _ _=>trivial)) ⟨#[49]⟩ hwr (by omega) (by unfold iD; decide)).mono fun e w2 ⟨v,h1,h2,h3⟩=>⟨_,h1,h2,h3⟩) fun v93 wa93 wb93 hm93 hl93 hR93=>?_
  refine Rn [1,9,0] ?_
  refine Xc (v:=Value.tuple #[.string ⟨(fX (bo xs ⟨#[49]⟩)).toArray⟩,Vi 0]) rfl Tryz.func25 rfl (fun w1 hw1=>by
   have h:=jV (l:=bo xs ⟨#[49]⟩) w1 (bY hR93 hw1 Zh hm93) (by have h2:(fX (bo xs ⟨#[49]⟩)).toArray.size≤150000000:=(lp (t:=⟨#[49]⟩) hwr (by omega) (by decide)).2.1; rw [List.size_toArray] at h2; omega)
   rw [(lp (t:=⟨#[49]⟩) hwr (by omega) (by decide)).1] at h; exact h) ?_
  refine Rn [0,20,20,1,1,9,0,1,2,6] ?_
  exact aw rfl rfl (fun w' hm=>⟨_,rfl,hm.b,(lp (t:=⟨#[49]⟩) hwr (by omega) (by decide)).2.1⟩)
 refine Rn [23,0] ?_
 refine Xc (v:=Value.tuple #[.string ⟨(fX (bH xs)).toArray⟩,Vi 0]) rfl Tryz.func25 rfl (fun w1 hw1=>by
  have h:=jV (l:=bH xs) w1 (bY hR87 hw1 Zh hm87) (by have h2:(fX (bH xs)).toArray.size≤150000000:=(mQ hwr (by omega)).2.1; rw [List.size_toArray] at h2; omega)
  rw [(mQ hwr (by omega)).1] at h; exact h) ?_
 refine Rn [0,20,20,1,1,9,0,1,2,6] ?_
 exact aw rfl rfl (fun w' hm=>⟨_,rfl,hm.b,(mQ hwr (by omega)).2.1⟩)
open Go.RowKit Go.PK
theorem l8 {w:World} {l1 L:List (Nat×Obj)} {ro:List av} {m tol:Int} {y:Jx} {s1 s2:SG} {z:Jq} (hm:Mem w (l1++y.own tol s2 z L) ro) (hg:JG m y tol s1 s2 z) (k0 a b c:Int) (ha:aj a) (hb:aj b) (hc:aj c):Calls Tryz.prog 33 #[Pt y.pR,.agg [Vi k0,Vi a,Vi b,Vi c].toArray] w fun e w'=>∃ t:ByteArray,e=.returned (.string t)∧Later w w'∧t.size≤150000000:=r_Reply k0 a b c ha hb hc w (aa (vs:=[Pt y.pG,Vi y.tr,au z.RE s2.L.length]) (off:=2) (.head _) rfl w (d4 hm)) ((d4 hm).rowIn (fun p hp=>.tail _ (List.mem_append_left _ hp))) hg.E hg.d2.sm
theorem nI {w:World} {l1 L:List (Nat×Obj)} {ro:List av} {m tol:Int} {y:Jx} {s1 s2:SG} {z:Jq} (hm:Mem w (l1++y.own tol s2 z L) ro) (hg:JG m y tol s1 s2 z) (k0 a b c:Int) (ha:aj a) (hb:aj b) (hc:aj c):Calls Tryz.prog 34 #[Pt y.pR,.agg [Vi k0,Vi a,Vi b,Vi c].toArray] w fun e w'=>∃ t:ByteArray,e=.returned (.string t)∧Later w w'∧t.size≤150000000:=r_Bill k0 a b c ha hb hc w (aa (vs:=[Pt y.pG,Vi y.tr,au z.RE s2.L.length]) (off:=2) (.head _) rfl w (d4 hm)) ((d4 hm).rowIn (fun p hp=>.tail _ (List.mem_append_left _ hp))) hg.E hg.d2.sm hg.d2.inv.ok.L
theorem tj (a b c:Int):rh (dt a b c):=by
 have h1:=cN a (m:=6) (by decide); have h2:=cN b (m:=4) (by decide); have h3:=cN a (m:=3) (by decide); have h4:=cN c (m:=6) (by decide); have h5:=cN b (m:=13) (by decide)
 unfold rh dt; dsimp only; omega
theorem d_do {w:World} {l1 L:List (Nat×Obj)} {ro:List av} {m tol:Int} {y:Jx} {s:SG} {z:Jq} (hm:Mem w (l1++y.own tol s z L) ro) (hg:JG m y tol s s z) {ws:World} (hws:(ws,fun _=>True)∈ro) (hL:LD ws) (k0 a b c:Int) (hk0:aj k0) (ha:aj a) (hb:aj b) (hc:aj c) :
  Calls Tryz.prog 29 #[.agg [Pt y.x.pO,Pt y.x.pF,Pt y.pR].toArray,.agg [Vi k0,Vi a,Vi b,Vi c].toArray] w fun e w'=>∃ u:Int×SG×Jq,e=.returned (.tuple #[Vi u.1,Vi u.1])∧(u.1≠0→u.2.1=s)∧JG m y tol u.2.1 u.2.1 u.2.2∧Mem w' (l1++y.own tol u.2.1 u.2.2 L) ro:=by
 have hm6:=cN a (m:=6) (by decide)
 have hm4:=cN c (m:=4) (by decide)
 have hid:aj (1+a%6):=by unfold aj; omega
 have hnn:aj (c%4):=by unfold aj; omega
 refine ay hm Tryz.func29 rfl Tryz.ntmps29 rfl ?_
 refine Rn [3,36,36,1,1,2,5,3,4,7] fun p2 p3=>?_
 refine Xc (v:=Vi (k0%9)) rfl Tryz.func43 rfl (fun w1 hw1=>ix k0 9 w1 hk0 (by decide)) ?_
 have hm13:=cN k0 (m:=9) (by decide)
 refine Rn [2,14,5,3,38,1,2,12] fun b15 hb15=>Aw (fun hc14=>?_) fun hc14=>?_
 ·refine Rn [16,10] (Aw (fun hc14=>?_) fun hc14=>?_)
  ·simp only [hb15,Qz,ne_eq] at hc14
   refine Zs ?_
   refine cL ([(Bk p3 [Vi k0,Vi a,Vi b,Vi c] 42),(Bk p2 [Pt y.x.pO,Pt y.x.pF,Pt y.pR] 64)]) 12 (.flt 0 (.flt 1 (.flt 2 (.flt 3 (.flt 5 (.flt 6 (.flt 7 (.gr 4 (.flt 8 (.gr 9 (.flt 10 (.flt 11 .done)) .nil)) .nil)))))))) (.cons_cons _ (.cons_cons _ (List.nil_sublist _))) Zk Zk ?_
   refine Rn [41,49,84] ?_
   refine lI rfl rfl Tryz.func19 Zk rfl (fun w1 hw1=>sP k0 a b c w1 ha hb hc) ?_
   refine Rn [41,49,84,42] ?_
   refine aI (τ:=Jq) (v:=Vi (aD s (dt a b c)).1) (fun z=>JG m y tol (aD s (dt a b c)).2 s z) (fun z=>(Bk p3 [Vi k0,Vi a,Vi b,Vi c] 42)::(Bk p2 [Pt y.x.pO,Pt y.x.pF,Pt y.pR] 64)::(l1++y.own tol s z L)) rfl rfl Tryz.func12 Zk rfl (fun w1 hw1=>uX (l1:=(Bk p3 [Vi k0,Vi a,Vi b,Vi c] 42)::(Bk p2 [Pt y.x.pO,Pt y.x.pF,Pt y.pR] 64)::l1) hw1 hg hws hL (dt a b c) (nC a b c) (tj a b c)) fun z21 hg21=>?_
   refine Rn [13,66] ?_
   refine lI rfl rfl Tryz.func19 Zk rfl (fun w1 hw1=>sP k0 a b c w1 ha hb hc) ?_
   refine Rn [42] ?_
   refine aI (τ:=Jq) (v:=Vi (aD s (dt a b c)).1) (fun z=>JG m y tol (aD s (dt a b c)).2 (aD s (dt a b c)).2 z) (fun z=>(Bk p3 [Vi k0,Vi a,Vi b,Vi c] 42)::(Bk p2 [Pt y.x.pO,Pt y.x.pF,Pt y.pR] 64)::(l1++y.own tol (aD s (dt a b c)).2 z L)) rfl rfl Tryz.func78 Zk rfl (fun w1 hw1=>uY (l1:=(Bk p3 [Vi k0,Vi a,Vi b,Vi c] 42)::(Bk p2 [Pt y.x.pO,Pt y.x.pF,Pt y.pR] 64)::l1) hw1 hg21 (dt a b c) (nC a b c) (tj a b c)) fun z26 hg26=>?_
   refine Rn [13,66,55,55,56,2,6,15,8] ?_
   exact s7 rfl rfl rfl (fun w' hm'=>⟨((aD s (dt a b c)).1,(aD s (dt a b c)).2,z26),rfl,ri,hg26,hm'.less (Ls.trans Ls) (fun _ h=>h)⟩)
  simp only [hb15,Qz,ne_eq] at hc14
  omega
 refine Rn [18,38,1,2,12] fun b16 hb16=>Aw (fun hc14=>?_) fun hc14=>?_
 ·refine Zs ?_
  refine cL ([(Bk p3 [Vi k0,Vi a,Vi b,Vi c] 42),(Bk p2 [Pt y.x.pO,Pt y.x.pF,Pt y.pR] 64)]) 12 (.flt 0 (.flt 1 (.flt 2 (.flt 3 (.flt 5 (.flt 6 (.flt 7 (.gr 4 (.flt 8 (.gr 9 (.flt 10 (.flt 11 .done)) .nil)) .nil)))))))) (.cons_cons _ (.cons_cons _ (List.nil_sublist _))) Zk Zk ?_
  refine Rn [41,49,84] ?_
  refine lI rfl rfl Tryz.func19 Zk rfl (fun w1 hw1=>sP k0 a b c w1 ha hb hc) ?_
  refine Rn [41,49,84,42] ?_
  refine aI (τ:=Jq) (v:=Vi (aD s (dt a b c)).1) (fun z=>JG m y tol (aD s (dt a b c)).2 s z) (fun z=>(Bk p3 [Vi k0,Vi a,Vi b,Vi c] 42)::(Bk p2 [Pt y.x.pO,Pt y.x.pF,Pt y.pR] 64)::(l1++y.own tol s z L)) rfl rfl Tryz.func12 Zk rfl (fun w1 hw1=>uX (l1:=(Bk p3 [Vi k0,Vi a,Vi b,Vi c] 42)::(Bk p2 [Pt y.x.pO,Pt y.x.pF,Pt y.pR] 64)::l1) hw1 hg hws hL (dt a b c) (nC a b c) (tj a b c)) fun z21 hg21=>?_
  refine Rn [13,66] ?_
  refine lI rfl rfl Tryz.func19 Zk rfl (fun w1 hw1=>sP k0 a b c w1 ha hb hc) ?_
  refine Rn [42] ?_
  refine aI (τ:=Jq) (v:=Vi (aD s (dt a b c)).1) (fun z=>JG m y tol (aD s (dt a b c)).2 (aD s (dt a b c)).2 z) (fun z=>(Bk p3 [Vi k0,Vi a,Vi b,Vi c] 42)::(Bk p2 [Pt y.x.pO,Pt y.x.pF,Pt y.pR] 64)::(l1++y.own tol (aD s (dt a b c)).2 z L)) rfl rfl Tryz.func78 Zk rfl (fun w1 hw1=>uY (l1:=(Bk p3 [Vi k0,Vi a,Vi b,Vi c] 42)::(Bk p2 [Pt y.x.pO,Pt y.x.pF,Pt y.pR] 64)::l1) hw1 hg21 (dt a b c) (nC a b c) (tj a b c)) fun z26 hg26=>?_
  refine Rn [13,66,55,55,56,2,6,15,8] ?_
  exact s7 rfl rfl rfl (fun w' hm'=>⟨((aD s (dt a b c)).1,(aD s (dt a b c)).2,z26),rfl,ri,hg26,hm'.less (Ls.trans Ls) (fun _ h=>h)⟩)
 refine Rn [5,3,38,1,2,12] fun b28 hb28=>Aw (fun hc27=>?_) fun hc27=>?_
 ·refine Rn [16,10] (Aw (fun hc27=>?_) fun hc27=>?_)
  ·simp only [hb28,Qz,ne_eq] at hc27
   refine Rn [3,4,7,39] ?_
   refine Xd (R:=fun v wa wb=>∃ t:ByteArray,v=.string t∧t.size≤200000000) rfl Tryz.func33 rfl (fun w1 hw1=>(l8 (l1:=(Bk p3 [Vi k0,Vi a,Vi b,Vi c] 42)::(Bk p2 [Pt y.x.pO,Pt y.x.pF,Pt y.pR] 64)::l1) hw1 hg k0 a b c ha hb hc).mono fun e w2 ⟨t,h1,h2,h3⟩=>⟨_,h1,h2,t,rfl,Nat.le_trans h3 (by decide)⟩) fun v33 wa33 wb33 hm33 hl33 hR33=>?_
   obtain ⟨t,rfl,ht⟩:=hR33
   refine Rn [1,2,5] ?_
   refine dY (own':=(Bk p3 [Vi k0,Vi a,Vi b,Vi c] 42)::(Bk p2 [Pt y.x.pO,Pt y.x.pF,Pt y.pR] 64)::(l1++y.own tol s z L)) (ro':=ro) (fun w1 h=>h.less (.refl _) (fun _ h=>.tail _ h)) ?_
   refine cL ([(Bk p3 [Vi k0,Vi a,Vi b,Vi c] 42),(Bk p2 [Pt y.x.pO,Pt y.x.pF,Pt y.pR] 64)]) 10 (.flt 0 (.flt 1 (.flt 2 (.flt 4 (.flt 5 (.flt 6 (.gr 3 (.gr 7 (.flt 8 (.flt 9 .done)) .nil) .nil))))))) (.cons_cons _ (.cons_cons _ (List.nil_sublist _))) Zk Zk ?_
   refine Rn [41,49,44,41,49,44,42] ?_
   refine aI (τ:=Jq) (v:=Vi (ah s (bn t).1 (bn t).2).1) (fun z=>JG m y tol (ah s (bn t).1 (bn t).2).2 s z) (fun z=>(Bk p3 [Vi k0,Vi a,Vi b,Vi c] 42)::(Bk p2 [Pt y.x.pO,Pt y.x.pF,Pt y.pR] 64)::(l1++y.own tol s z L)) rfl rfl Tryz.func13 Zk rfl (fun w1 hw1=>mM (l1:=(Bk p3 [Vi k0,Vi a,Vi b,Vi c] 42)::(Bk p2 [Pt y.x.pO,Pt y.x.pF,Pt y.pR] 64)::l1) hw1 hg hws hL t ht) fun z37 hg37=>?_
   refine Rn [13,66,42] ?_
   refine aI (τ:=Jq) (v:=Vi (ah s (bn t).1 (bn t).2).1) (fun z=>JG m y tol (ah s (bn t).1 (bn t).2).2 (ah s (bn t).1 (bn t).2).2 z) (fun z=>(Bk p3 [Vi k0,Vi a,Vi b,Vi c] 42)::(Bk p2 [Pt y.x.pO,Pt y.x.pF,Pt y.pR] 64)::(l1++y.own tol (ah s (bn t).1 (bn t).2).2 z L)) rfl rfl Tryz.func35 Zk rfl (fun w1 hw1=>mN (l1:=(Bk p3 [Vi k0,Vi a,Vi b,Vi c] 42)::(Bk p2 [Pt y.x.pO,Pt y.x.pF,Pt y.pR] 64)::l1) hw1 hg37 t ht) fun z41 hg41=>?_
   refine Rn [13,66,55,55,56,2,6,15,8] ?_
   exact s7 rfl rfl rfl (fun w' hm'=>⟨((ah s (bn t).1 (bn t).2).1,(ah s (bn t).1 (bn t).2).2,z41),rfl,pq,hg41,hm'.less (Ls.trans Ls) (fun _ h=>h)⟩)
  simp only [hb28,Qz,ne_eq] at hc27
  omega
 refine Rn [18,38,1,2,12] fun b29 hb29=>Aw (fun hc27=>?_) fun hc27=>?_
 ·refine Rn [3,4,7,39] ?_
  refine Xd (R:=fun v wa wb=>∃ t:ByteArray,v=.string t∧t.size≤200000000) rfl Tryz.func33 rfl (fun w1 hw1=>(l8 (l1:=(Bk p3 [Vi k0,Vi a,Vi b,Vi c] 42)::(Bk p2 [Pt y.x.pO,Pt y.x.pF,Pt y.pR] 64)::l1) hw1 hg k0 a b c ha hb hc).mono fun e w2 ⟨t,h1,h2,h3⟩=>⟨_,h1,h2,t,rfl,Nat.le_trans h3 (by decide)⟩) fun v33 wa33 wb33 hm33 hl33 hR33=>?_
  obtain ⟨t,rfl,ht⟩:=hR33
  refine Rn [1,2,5] ?_
  refine dY (own':=(Bk p3 [Vi k0,Vi a,Vi b,Vi c] 42)::(Bk p2 [Pt y.x.pO,Pt y.x.pF,Pt y.pR] 64)::(l1++y.own tol s z L)) (ro':=ro) (fun w1 h=>h.less (.refl _) (fun _ h=>.tail _ h)) ?_
  refine cL ([(Bk p3 [Vi k0,Vi a,Vi b,Vi c] 42),(Bk p2 [Pt y.x.pO,Pt y.x.pF,Pt y.pR] 64)]) 10 (.flt 0 (.flt 1 (.flt 2 (.flt 4 (.flt 5 (.flt 6 (.gr 3 (.gr 7 (.flt 8 (.flt 9 .done)) .nil) .nil))))))) (.cons_cons _ (.cons_cons _ (List.nil_sublist _))) Zk Zk ?_
  refine Rn [41,49,44,41,49,44,42] ?_
  refine aI (τ:=Jq) (v:=Vi (ah s (bn t).1 (bn t).2).1) (fun z=>JG m y tol (ah s (bn t).1 (bn t).2).2 s z) (fun z=>(Bk p3 [Vi k0,Vi a,Vi b,Vi c] 42)::(Bk p2 [Pt y.x.pO,Pt y.x.pF,Pt y.pR] 64)::(l1++y.own tol s z L)) rfl rfl Tryz.func13 Zk rfl (fun w1 hw1=>mM (l1:=(Bk p3 [Vi k0,Vi a,Vi b,Vi c] 42)::(Bk p2 [Pt y.x.pO,Pt y.x.pF,Pt y.pR] 64)::l1) hw1 hg hws hL t ht) fun z37 hg37=>?_
  refine Rn [13,66,42] ?_
  refine aI (τ:=Jq) (v:=Vi (ah s (bn t).1 (bn t).2).1) (fun z=>JG m y tol (ah s (bn t).1 (bn t).2).2 (ah s (bn t).1 (bn t).2).2 z) (fun z=>(Bk p3 [Vi k0,Vi a,Vi b,Vi c] 42)::(Bk p2 [Pt y.x.pO,Pt y.x.pF,Pt y.pR] 64)::(l1++y.own tol (ah s (bn t).1 (bn t).2).2 z L)) rfl rfl Tryz.func35 Zk rfl (fun w1 hw1=>mN (l1:=(Bk p3 [Vi k0,Vi a,Vi b,Vi c] 42)::(Bk p2 [Pt y.x.pO,Pt y.x.pF,Pt y.pR] 64)::l1) hw1 hg37 t ht) fun z41 hg41=>?_
  refine Rn [13,66,55,55,56,2,6,15,8] ?_
  exact s7 rfl rfl rfl (fun w' hm'=>⟨((ah s (bn t).1 (bn t).2).1,(ah s (bn t).1 (bn t).2).2,z41),rfl,pq,hg41,hm'.less (Ls.trans Ls) (fun _ h=>h)⟩)
 refine Rn [5,3,38,1,2,12] fun b43 hb43=>Aw (fun hc42=>?_) fun hc42=>?_
 ·refine Rn [16,10] (Aw (fun hc42=>?_) fun hc42=>?_)
  ·simp only [hb43,Qz,ne_eq] at hc42
   refine Rn [3,4,7] ?_
   refine Xc (v:=Vi (a%6)) rfl Tryz.func43 rfl (fun w1 hw1=>ix a 6 w1 ha (by decide)) ?_
   have hm47:=cN a (m:=6) (by decide)
   refine Rn [26,1,9,4,7] ?_
   refine Xc (v:=Vi (c%4)) rfl Tryz.func43 rfl (fun w1 hw1=>ix c 4 w1 hc (by decide)) ?_
   have hm51:=cN c (m:=4) (by decide)
   refine Rn [1,2,5] ?_
   refine cL ([(Bk p3 [Vi k0,Vi a,Vi b,Vi c] 42),(Bk p2 [Pt y.x.pO,Pt y.x.pF,Pt y.pR] 64)]) 12 (.flt 0 (.flt 1 (.flt 2 (.flt 3 (.flt 5 (.flt 6 (.flt 7 (.flt 8 (.gr 4 (.gr 9 (.flt 10 (.flt 11 .done)) .nil) .nil))))))))) (.cons_cons _ (.cons_cons _ (List.nil_sublist _))) Zk Zk ?_
   refine Rn [41,49,44,44,41,49,44,44,42] ?_
   refine aI (τ:=Jq) (v:=Vi (ar s (1+a%6) (c%4)).1) (fun z=>JG m y tol (ar s (1+a%6) (c%4)).2 s z) (fun z=>(Bk p3 [Vi k0,Vi a,Vi b,Vi c] 42)::(Bk p2 [Pt y.x.pO,Pt y.x.pF,Pt y.pR] 64)::(l1++y.own tol s z L)) rfl rfl Tryz.func14 Zk rfl (fun w1 hw1=>pA (l1:=(Bk p3 [Vi k0,Vi a,Vi b,Vi c] 42)::(Bk p2 [Pt y.x.pO,Pt y.x.pF,Pt y.pR] 64)::l1) hw1 hg (id:=1+a%6) hid (c%4) hnn) fun z56 hg56=>?_
   refine Rn [13,66,42] ?_
   refine aI (τ:=Jq) (v:=Vi (ar s (1+a%6) (c%4)).1) (fun z=>JG m y tol (ar s (1+a%6) (c%4)).2 (ar s (1+a%6) (c%4)).2 z) (fun z=>(Bk p3 [Vi k0,Vi a,Vi b,Vi c] 42)::(Bk p2 [Pt y.x.pO,Pt y.x.pF,Pt y.pR] 64)::(l1++y.own tol (ar s (1+a%6) (c%4)).2 z L)) rfl rfl Tryz.func79 Zk rfl (fun w1 hw1=>pB (l1:=(Bk p3 [Vi k0,Vi a,Vi b,Vi c] 42)::(Bk p2 [Pt y.x.pO,Pt y.x.pF,Pt y.pR] 64)::l1) hw1 hg56 (id:=1+a%6) hid (c%4) hnn) fun z61 hg61=>?_
   refine Rn [13,66,55,55,56,2,6,15,8] ?_
   exact s7 rfl rfl rfl (fun w' hm'=>⟨((ar s (1+a%6) (c%4)).1,(ar s (1+a%6) (c%4)).2,z61),rfl,nf,hg61,hm'.less (Ls.trans Ls) (fun _ h=>h)⟩)
  simp only [hb43,Qz,ne_eq] at hc42
  omega
 refine Rn [18,38,1,2,12] fun b44 hb44=>Aw (fun hc42=>?_) fun hc42=>?_
 ·refine Rn [3,4,7] ?_
  refine Xc (v:=Vi (a%6)) rfl Tryz.func43 rfl (fun w1 hw1=>ix a 6 w1 ha (by decide)) ?_
  have hm47:=cN a (m:=6) (by decide)
  refine Rn [26,1,9,4,7] ?_
  refine Xc (v:=Vi (c%4)) rfl Tryz.func43 rfl (fun w1 hw1=>ix c 4 w1 hc (by decide)) ?_
  have hm51:=cN c (m:=4) (by decide)
  refine Rn [1,2,5] ?_
  refine cL ([(Bk p3 [Vi k0,Vi a,Vi b,Vi c] 42),(Bk p2 [Pt y.x.pO,Pt y.x.pF,Pt y.pR] 64)]) 12 (.flt 0 (.flt 1 (.flt 2 (.flt 3 (.flt 5 (.flt 6 (.flt 7 (.flt 8 (.gr 4 (.gr 9 (.flt 10 (.flt 11 .done)) .nil) .nil))))))))) (.cons_cons _ (.cons_cons _ (List.nil_sublist _))) Zk Zk ?_
  refine Rn [41,49,44,44,41,49,44,44,42] ?_
  refine aI (τ:=Jq) (v:=Vi (ar s (1+a%6) (c%4)).1) (fun z=>JG m y tol (ar s (1+a%6) (c%4)).2 s z) (fun z=>(Bk p3 [Vi k0,Vi a,Vi b,Vi c] 42)::(Bk p2 [Pt y.x.pO,Pt y.x.pF,Pt y.pR] 64)::(l1++y.own tol s z L)) rfl rfl Tryz.func14 Zk rfl (fun w1 hw1=>pA (l1:=(Bk p3 [Vi k0,Vi a,Vi b,Vi c] 42)::(Bk p2 [Pt y.x.pO,Pt y.x.pF,Pt y.pR] 64)::l1) hw1 hg (id:=1+a%6) hid (c%4) hnn) fun z56 hg56=>?_
  refine Rn [13,66,42] ?_
  refine aI (τ:=Jq) (v:=Vi (ar s (1+a%6) (c%4)).1) (fun z=>JG m y tol (ar s (1+a%6) (c%4)).2 (ar s (1+a%6) (c%4)).2 z) (fun z=>(Bk p3 [Vi k0,Vi a,Vi b,Vi c] 42)::(Bk p2 [Pt y.x.pO,Pt y.x.pF,Pt y.pR] 64)::(l1++y.own tol (ar s (1+a%6) (c%4)).2 z L)) rfl rfl Tryz.func79 Zk rfl (fun w1 hw1=>pB (l1:=(Bk p3 [Vi k0,Vi a,Vi b,Vi c] 42)::(Bk p2 [Pt y.x.pO,Pt y.x.pF,Pt y.pR] 64)::l1) hw1 hg56 (id:=1+a%6) hid (c%4) hnn) fun z61 hg61=>?_
  refine Rn [13,66,55,55,56,2,6,15,8] ?_
  exact s7 rfl rfl rfl (fun w' hm'=>⟨((ar s (1+a%6) (c%4)).1,(ar s (1+a%6) (c%4)).2,z61),rfl,nf,hg61,hm'.less (Ls.trans Ls) (fun _ h=>h)⟩)
 refine Rn [5,3,38,1,2,12] fun b63 hb63=>Aw (fun hc62=>?_) fun hc62=>?_
 ·refine Rn [16,10] (Aw (fun hc62=>?_) fun hc62=>?_)
  ·simp only [hb63,Qz,ne_eq] at hc62
   refine Rn [3,4,7,39] ?_
   refine Xd (R:=fun v wa wb=>∃ t:ByteArray,v=.string t∧t.size≤200000000) rfl Tryz.func34 rfl (fun w1 hw1=>(nI (l1:=(Bk p3 [Vi k0,Vi a,Vi b,Vi c] 42)::(Bk p2 [Pt y.x.pO,Pt y.x.pF,Pt y.pR] 64)::l1) hw1 hg k0 a b c ha hb hc).mono fun e w2 ⟨t,h1,h2,h3⟩=>⟨_,h1,h2,t,rfl,Nat.le_trans h3 (by decide)⟩) fun v68 wa68 wb68 hm68 hl68 hR68=>?_
   obtain ⟨t,rfl,ht⟩:=hR68
   refine Rn [1,2,5] ?_
   refine dY (own':=(Bk p3 [Vi k0,Vi a,Vi b,Vi c] 42)::(Bk p2 [Pt y.x.pO,Pt y.x.pF,Pt y.pR] 64)::(l1++y.own tol s z L)) (ro':=ro) (fun w1 h=>h.less (.refl _) (fun _ h=>.tail _ h)) ?_
   refine cL ([(Bk p3 [Vi k0,Vi a,Vi b,Vi c] 42),(Bk p2 [Pt y.x.pO,Pt y.x.pF,Pt y.pR] 64)]) 10 (.flt 0 (.flt 1 (.flt 2 (.flt 4 (.flt 5 (.flt 6 (.gr 3 (.gr 7 (.flt 8 (.flt 9 .done)) .nil) .nil))))))) (.cons_cons _ (.cons_cons _ (List.nil_sublist _))) Zk Zk ?_
   refine Rn [41,49,44,41,49,44,42] ?_
   refine aI (τ:=Jq) (v:=Vi (aF s (aM t).1 (aM t).2).1) (fun z=>JG m y tol (aF s (aM t).1 (aM t).2).2 s z) (fun z=>(Bk p3 [Vi k0,Vi a,Vi b,Vi c] 42)::(Bk p2 [Pt y.x.pO,Pt y.x.pF,Pt y.pR] 64)::(l1++y.own tol s z L)) rfl rfl Tryz.func15 Zk rfl (fun w1 hw1=>lk (l1:=(Bk p3 [Vi k0,Vi a,Vi b,Vi c] 42)::(Bk p2 [Pt y.x.pO,Pt y.x.pF,Pt y.pR] 64)::l1) hw1 hg hws hL t ht) fun z72 hg72=>?_
   refine Rn [13,66,42] ?_
   refine aI (τ:=Jq) (v:=Vi (aF s (aM t).1 (aM t).2).1) (fun z=>JG m y tol (aF s (aM t).1 (aM t).2).2 (aF s (aM t).1 (aM t).2).2 z) (fun z=>(Bk p3 [Vi k0,Vi a,Vi b,Vi c] 42)::(Bk p2 [Pt y.x.pO,Pt y.x.pF,Pt y.pR] 64)::(l1++y.own tol (aF s (aM t).1 (aM t).2).2 z L)) rfl rfl Tryz.func36 Zk rfl (fun w1 hw1=>ll (l1:=(Bk p3 [Vi k0,Vi a,Vi b,Vi c] 42)::(Bk p2 [Pt y.x.pO,Pt y.x.pF,Pt y.pR] 64)::l1) hw1 hg72 t ht) fun z76 hg76=>?_
   refine Rn [13,66,55,55,56,2,6,15,8] ?_
   exact s7 rfl rfl rfl (fun w' hm'=>⟨((aF s (aM t).1 (aM t).2).1,(aF s (aM t).1 (aM t).2).2,z76),rfl,ng,hg76,hm'.less (Ls.trans Ls) (fun _ h=>h)⟩)
  simp only [hb63,Qz,ne_eq] at hc62
  omega
 refine Rn [18,38,1,2,12] fun b64 hb64=>Aw (fun hc62=>?_) fun hc62=>?_
 ·refine Rn [3,4,7,39] ?_
  refine Xd (R:=fun v wa wb=>∃ t:ByteArray,v=.string t∧t.size≤200000000) rfl Tryz.func34 rfl (fun w1 hw1=>(nI (l1:=(Bk p3 [Vi k0,Vi a,Vi b,Vi c] 42)::(Bk p2 [Pt y.x.pO,Pt y.x.pF,Pt y.pR] 64)::l1) hw1 hg k0 a b c ha hb hc).mono fun e w2 ⟨t,h1,h2,h3⟩=>⟨_,h1,h2,t,rfl,Nat.le_trans h3 (by decide)⟩) fun v68 wa68 wb68 hm68 hl68 hR68=>?_
  obtain ⟨t,rfl,ht⟩:=hR68
  refine Rn [1,2,5] ?_
  refine dY (own':=(Bk p3 [Vi k0,Vi a,Vi b,Vi c] 42)::(Bk p2 [Pt y.x.pO,Pt y.x.pF,Pt y.pR] 64)::(l1++y.own tol s z L)) (ro':=ro) (fun w1 h=>h.less (.refl _) (fun _ h=>.tail _ h)) ?_
  refine cL ([(Bk p3 [Vi k0,Vi a,Vi b,Vi c] 42),(Bk p2 [Pt y.x.pO,Pt y.x.pF,Pt y.pR] 64)]) 10 (.flt 0 (.flt 1 (.flt 2 (.flt 4 (.flt 5 (.flt 6 (.gr 3 (.gr 7 (.flt 8 (.flt 9 .done)) .nil) .nil))))))) (.cons_cons _ (.cons_cons _ (List.nil_sublist _))) Zk Zk ?_
  refine Rn [41,49,44,41,49,44,42] ?_
  refine aI (τ:=Jq) (v:=Vi (aF s (aM t).1 (aM t).2).1) (fun z=>JG m y tol (aF s (aM t).1 (aM t).2).2 s z) (fun z=>(Bk p3 [Vi k0,Vi a,Vi b,Vi c] 42)::(Bk p2 [Pt y.x.pO,Pt y.x.pF,Pt y.pR] 64)::(l1++y.own tol s z L)) rfl rfl Tryz.func15 Zk rfl (fun w1 hw1=>lk (l1:=(Bk p3 [Vi k0,Vi a,Vi b,Vi c] 42)::(Bk p2 [Pt y.x.pO,Pt y.x.pF,Pt y.pR] 64)::l1) hw1 hg hws hL t ht) fun z72 hg72=>?_
  refine Rn [13,66,42] ?_
  refine aI (τ:=Jq) (v:=Vi (aF s (aM t).1 (aM t).2).1) (fun z=>JG m y tol (aF s (aM t).1 (aM t).2).2 (aF s (aM t).1 (aM t).2).2 z) (fun z=>(Bk p3 [Vi k0,Vi a,Vi b,Vi c] 42)::(Bk p2 [Pt y.x.pO,Pt y.x.pF,Pt y.pR] 64)::(l1++y.own tol (aF s (aM t).1 (aM t).2).2 z L)) rfl rfl Tryz.func36 Zk rfl (fun w1 hw1=>ll (l1:=(Bk p3 [Vi k0,Vi a,Vi b,Vi c] 42)::(Bk p2 [Pt y.x.pO,Pt y.x.pF,Pt y.pR] 64)::l1) hw1 hg72 t ht) fun z76 hg76=>?_
  refine Rn [13,66,55,55,56,2,6,15,8] ?_
  exact s7 rfl rfl rfl (fun w' hm'=>⟨((aF s (aM t).1 (aM t).2).1,(aF s (aM t).1 (aM t).2).2,z76),rfl,ng,hg76,hm'.less (Ls.trans Ls) (fun _ h=>h)⟩)
 refine Rn [45,27,17,3,4,7] ?_
 refine Xc (v:=Vi (a%6)) rfl Tryz.func43 rfl (fun w1 hw1=>ix a 6 w1 ha (by decide)) ?_
 have hm79:=cN a (m:=6) (by decide)
 refine Rn [26,1,2,5] ?_
 refine cL ([(Bk p3 [Vi k0,Vi a,Vi b,Vi c] 42),(Bk p2 [Pt y.x.pO,Pt y.x.pF,Pt y.pR] 64)]) 10 (.flt 0 (.flt 1 (.flt 2 (.flt 4 (.flt 5 (.flt 6 (.gr 3 (.gr 7 (.flt 8 (.flt 9 .done)) .nil) .nil))))))) (.cons_cons _ (.cons_cons _ (List.nil_sublist _))) Zk Zk ?_
 refine Rn [41,49,44,41,49,44,42] ?_
 refine aI (τ:=Jq) (v:=Vi (aE s (1+a%6)).1) (fun z=>JG m y tol (aE s (1+a%6)).2 s z) (fun z=>(Bk p3 [Vi k0,Vi a,Vi b,Vi c] 42)::(Bk p2 [Pt y.x.pO,Pt y.x.pF,Pt y.pR] 64)::(l1++y.own tol s z L)) rfl rfl Tryz.func16 Zk rfl (fun w1 hw1=>zr (l1:=(Bk p3 [Vi k0,Vi a,Vi b,Vi c] 42)::(Bk p2 [Pt y.x.pO,Pt y.x.pF,Pt y.pR] 64)::l1) hw1 hg (id:=1+a%6) hid) fun z84 hg84=>?_
 refine Rn [13,66,42] ?_
 refine aI (τ:=Jq) (v:=Vi (aE s (1+a%6)).1) (fun z=>JG m y tol (aE s (1+a%6)).2 (aE s (1+a%6)).2 z) (fun z=>(Bk p3 [Vi k0,Vi a,Vi b,Vi c] 42)::(Bk p2 [Pt y.x.pO,Pt y.x.pF,Pt y.pR] 64)::(l1++y.own tol (aE s (1+a%6)).2 z L)) rfl rfl Tryz.func80 Zk rfl (fun w1 hw1=>zt (l1:=(Bk p3 [Vi k0,Vi a,Vi b,Vi c] 42)::(Bk p2 [Pt y.x.pO,Pt y.x.pF,Pt y.pR] 64)::l1) hw1 hg84 (id:=1+a%6) hid) fun z88 hg88=>?_
 refine Rn [13,66,55,55,56,2,6] ?_
 exact s7 rfl rfl rfl (fun w' hm'=>⟨((aE s (1+a%6)).1,(aE s (1+a%6)).2,z88),rfl,wm,hg88,hm'.less (Ls.trans Ls) (fun _ h=>h)⟩)
open Go.RowKit Go.PK
theorem lawForms {A0:Option Addr} {c0:Nat} {cs:List Ac4} (w:World) (hcs:ab rn (fun _=>True) w (.slice A0 cs.length c0) cs) {k0 k1 k2 k3:Int} (hk0:aj k0) (hk1:aj k1) (hk2:aj k2) {raw:ByteArray} (hraw:raw.size≤1048576) (hL:LD w) :
  Calls Tryz.prog 8 #[Value.slice A0 cs.length c0,.agg #[Vi k0,Vi k1,Vi k2,Vi k3],.string raw] w fun e w'=>e=.returned (.bool (true))∧Later w w':=by
 refine enter Tryz.func8 rfl Tryz.ntmps8 rfl ?_
 refine Rn [3,36,1,9] fun p4=>?_
 refine Xh rfl Tryz.func10 rfl (fun w1 hw1=>wk w1 (hL.later hw1.b)) fun b22 hb22=>?_
 obtain rfl:b22=true:=hb22
 refine Rn [1,9] ?_
 refine fq (τ:=Jx×Jq) (fun u=>.tuple #[.agg [Pt u.1.x.pO,Pt u.1.x.pF,Pt u.1.pR].toArray,.bool true]) (fun u=>JG (2000%5000) u.1 (min (max 50 0) 1000000) (⟨[(⟨1,0,⟨20000,0,0⟩⟩:FG),⟨2,1,⟨9000,0,0⟩⟩,⟨3,1,⟨(2000%5000),0,0⟩⟩],(min (max 50 0) 1000000),[]⟩:SG) (⟨[(⟨1,0,⟨20000,0,0⟩⟩:FG),⟨2,1,⟨9000,0,0⟩⟩,⟨3,1,⟨(2000%5000),0,0⟩⟩],(min (max 50 0) 1000000),[]⟩:SG) u.2) (fun u=>([]++u.1.own (min (max 50 0) 1000000) (⟨[(⟨1,0,⟨20000,0,0⟩⟩:FG),⟨2,1,⟨9000,0,0⟩⟩,⟨3,1,⟨(2000%5000),0,0⟩⟩],(min (max 50 0) 1000000),[]⟩:SG) u.2 [])++[(p4,Obj.cells #[Vi k0,Vi k1,Vi k2,Vi k3] 53)]) rfl rfl rfl Tryz.func28 Zk rfl (fun w1 hw1=>(tc 2000 50 (by unfold aj; decide) w1).mono fun e w2 ⟨u,h1,h2,h3⟩=>⟨u,h1,h3.b,h2,hw1.join2 h3⟩) ?_
 rintro ⟨y,z0⟩ hg0
 dsimp only at hg0
 refine Rn [0,20,48] fun b26 hb26=>?_
 obtain rfl:b26=true:=hb26
 refine Rn [28,32,1,2,5,3,0,43] fun p8 b28 hb28=>?_
 obtain rfl:b28=false:=hb28
 refine Rn [2,10] (Aw (fun hc28=>?_) fun hc28=>?_)
 ·cases hc28
 refine Rn [16,5,5] ?_
 refine dY (own':=(Bk p8 [Pt y.x.pO,Pt y.x.pF,Pt y.pR] 64)::(p4,Obj.cells #[Vi k0,Vi k1,Vi k2,Vi k3] 53)::y.own (min (max 50 0) 1000000) (⟨[(⟨1,0,⟨20000,0,0⟩⟩:FG),⟨2,1,⟨9000,0,0⟩⟩,⟨3,1,⟨(2000%5000),0,0⟩⟩],(min (max 50 0) 1000000),[]⟩:SG) z0 []) (ro':=[(w,fun _=>True)]) (fun w1 h=>h.perm (.cons _ (List.perm_append_comm (l₁:=y.own (min (max 50 0) 1000000) (⟨[(⟨1,0,⟨20000,0,0⟩⟩:FG),⟨2,1,⟨9000,0,0⟩⟩,⟨3,1,⟨(2000%5000),0,0⟩⟩],(min (max 50 0) 1000000),[]⟩:SG) z0 []) (l₂:=[(p4,Obj.cells #[Vi k0,Vi k1,Vi k2,Vi k3] 53)])))) ?_
 refine Rn [18,1,2,14] ?_
 refine aO (σ:=Nat×SG×Jq) (fun u=>u.1≤cs.length∧JG (2000%5000) y (min (max 50 0) 1000000) u.2.1 u.2.1 u.2.2) (fun u=>[(0,Value.slice A0 cs.length c0),(2,Value.string raw),(4,Pt p4),(7,Value.bool true),(8,Pt p8),(10,Vi (u.1:Nat))]) (fun u=>(Bk p8 [Pt y.x.pO,Pt y.x.pF,Pt y.pR] 64)::(p4,Obj.cells #[Vi k0,Vi k1,Vi k2,Vi k3] 53)::y.own (min (max 50 0) 1000000) u.2.1 u.2.2 []) (fun u=>[(w,fun _=>True)]) (fun u=>cs.length - u.1) ((0,(⟨[(⟨1,0,⟨20000,0,0⟩⟩:FG),⟨2,1,⟨9000,0,0⟩⟩,⟨3,1,⟨(2000%5000),0,0⟩⟩],(min (max 50 0) 1000000),[]⟩:SG),z0)) (⟨Nat.zero_le _,hg0⟩) (aC Zu (fun _ h=>h)) ?_
 rintro ⟨k,s,z⟩ ⟨hkL,hg⟩
 refine Rn [144] ?_
 dsimp only at hkL hg
 refine Rn [5,3,0,0,31,24,0,21,72,30,2,10] fun b32 hb32 b35 hb35 b36 hb36=>Aw (fun hc36=>?_) fun hc36=>?_
 ·simp only [hb36,hb35,hb32,Qz,ne_eq] at hc36
  have hk:k < cs.length:=by omega
  obtain ⟨b0,o0,hA0,hD0,hcell,hok⟩:=wu hcs hk
  obtain ⟨ik,ia,ib,ic⟩:=hok
  refine Rn [16,5,14] ?_
  refine cL ([(Bk p8 [Pt y.x.pO,Pt y.x.pF,Pt y.pR] 64)]) 6 (.flt 0 (.flt 1 (.flt 2 (.flt 3 (.flt 4 (.gr 5 .done .nil)))))) (.cons_cons _ (List.nil_sublist _)) Zk Zk ?_
  refine g9 rfl rfl (bS (e:=64) (fz:=(0,0)) (cs:=[Pt y.x.pO,Pt y.x.pF,Pt y.pR].toArray) u64 rfl rfl (.head _) rQ) (g9 rfl rfl (eC rfl) (g9 rfl rfl (eC rfl) (g9 rfl rfl (ae u60 tJ (congrArg (fun A=>some (Value.slice A cs.length c0)) hA0) rfl (by omega) rfl) (g9 rfl rfl (bj (vs:=cs[k].cells) u42 rfl tJ rfl (fun i hi=>an (.head _) trivial (hcell i hi))) ?_))))
  refine k_gr ?_ k_nil
  refine gB (fun (u:Int×SG×Jq) v _ _=>v=.tuple #[Vi u.1,Vi u.1]∧(u.1≠0→u.2.1=s)∧JG (2000%5000) y (min (max 50 0) 1000000) u.2.1 u.2.1 u.2.2) (fun u=>(Bk p8 [Pt y.x.pO,Pt y.x.pF,Pt y.pR] 64)::(p4,Obj.cells #[Vi k0,Vi k1,Vi k2,Vi k3] 53)::y.own (min (max 50 0) 1000000) u.2.1 u.2.2 []) rfl rfl Tryz.func29 Zk rfl (fun w1 hw1=>(d_do (l1:=[(Bk p8 [Pt y.x.pO,Pt y.x.pF,Pt y.pR] 64),(p4,Obj.cells #[Vi k0,Vi k1,Vi k2,Vi k3] 53)]) (L:=[]) hw1 hg (.head _) hL cs[k].k cs[k].a cs[k].b cs[k].c ik ia ib ic).mono fun e w2 ⟨u,h1,h2,h3,h4⟩=>⟨_,h1,u,⟨rfl,h2,h3⟩,h4⟩) ?_
  rintro _ ⟨ec,s',z'⟩ wa wb _ ⟨rfl,herr,hg'⟩ _
  dsimp only at herr hg'
  refine Ze ?_
  refine k_end (.cons_cons _ (List.nil_sublist _)) (fun _ h=>List.mem_cons_of_mem _ h) ?_
  refine Ax ?_
  refine Rn [13,27,17,18,0,26,1,13] ?_
  exact aJ (k+1,s',z') ⟨hk,hg'⟩ (by simp only; omega) Zu (fun w1 h=>h.less (.refl _) (fun _ h=>.tail _ h))
 refine Rn [34,19,19,35,17,5] ?_
 obtain ⟨E1,hE1⟩:∃ E,(⟨(cF (jG s.L)).toArray⟩:ByteArray)=E:=⟨_,rfl⟩
 obtain ⟨E2,hE2⟩:∃ E,(⟨(cF (er s.fs)).toArray⟩:ByteArray)=E:=⟨_,rfl⟩
 obtain ⟨ns,hns⟩:∃ v,jG s.L=v:=⟨_,rfl⟩
 obtain ⟨N,hN⟩:∃ v,ns.length=v:=⟨_,rfl⟩
 have hnb:∀ n∈ns,-1≤n∧n≤999999999:=hns▸encL_bd hg.d1.inv.ok.L
 have hni:∀ n∈ns,aj n:=fun n hn=>by have:=hnb n hn; unfold aj; omega
 have hN60:N≤60:=by have h1:=j5 s.L; have h2:=hg.d1.len; rw [hns,hN] at h1; omega
 have hE1s:0 < E1.size∧E1.size≤610:=by
  rw [← hE1,hns]; have:=zO (l:=ns) (by omega) hni; omega
 have hri:zv E1=(ns,0):=by rw [← hE1,hns]; exact uT (by omega) hni
 refine Rn [18,4,7] ?_
 refine Xc (v:=Value.string E1) rfl Tryz.func41 rfl (fun w1 hw1=>by
  have h:=AS (l1:=[(Bk p8 [Pt y.x.pO,Pt y.x.pF,Pt y.pR] 64),(p4,Obj.cells #[Vi k0,Vi k1,Vi k2,Vi k3] 53)]) (L:=[]) hw1 hg
  rw [hE1] at h; exact h) ?_
 refine Rn [1,9,0] ?_
 refine fq (τ:=ak) (fun R=>.tuple #[au R N,Vi 0]) (fun R=>ag 1 R N (ns.map (Value.int .i64))) (fun R=>aA 3 R++((Bk p8 [Pt y.x.pO,Pt y.x.pF,Pt y.pR] 64)::(p4,Obj.cells #[Vi k0,Vi k1,Vi k2,Vi k3] 53)::y.own (min (max 50 0) 1000000) s z [])) rfl rfl rfl Tryz.func42 Zk rfl (fun w1 hw1=>(c_rRIo E1 w1 (by omega)).mono fun e w2 ⟨R,h1,h2,_,h3⟩=>by
  rw [hri] at h1 h2
  dsimp only at h1 h2
  rw [hN] at h1 h2
  exact ⟨R,h1,h3.b,h2,hw1.join2 h3⟩) ?_
 intro R hR
 refine Rn [0,20,20,1,1,2] ?_
 refine cO (σ:=ak×List Int) (fun x=>ag 1 x.1 N (x.2.map (Value.int .i64))∧x.2.length=N∧∀ n∈x.2,aj n) (fun x=>[(2,Value.string raw),(4,Pt p4),(7,Value.bool true),(8,Pt p8),(11,Value.string E1),(12,au x.1 N)]) (fun x=>aA 3 x.1++((Bk p8 [Pt y.x.pO,Pt y.x.pF,Pt y.pR] 64)::(p4,Obj.cells #[Vi k0,Vi k1,Vi k2,Vi k3] 53)::y.own (min (max 50 0) 1000000) s z [])) (fun x=>[(w,fun _=>True)]) ?_ ?_
 ·refine Rn [3,0,31,60,2,10] fun b55 hb55=>Aw (fun hc55=>?_) fun hc55=>?_
  ·simp only [hb55,Qz,ne_eq] at hc55
   have hN0:0 < N:=by omega
   obtain ⟨bR,csR,cR,rfl,hcs0⟩:=hR.cell (j:=0) (by rw [List.length_map]; omega)
   obtain ⟨kk,hkk,hkkl⟩:∃ k:Nat,k0%(N:Int)=(k:Int)∧(k:Int) < N:=by
    have h1:=Int.emod_nonneg k0 (b:=(N:Int)) (by omega)
    have h2:=Int.emod_lt_of_pos k0 (b:=(N:Int)) (by omega)
    exact ⟨(k0%(N:Int)).toNat,by omega,by omega⟩
   have hkk1:kk < N:=by omega
   obtain ⟨nk,hnk,hnk0⟩:∃ v,ns[kk]?=some v∧v∈ns:=⟨ns[kk],List.getElem?_eq_getElem (by omega),List.getElem_mem _⟩
   have hnkb:=hnb nk hnk0
   have hck:csR[kk]?=some (Vi nk):=by
    obtain ⟨_,_,_,e1,e2⟩:=hR.cell (j:=kk) (by rw [List.length_map]; omega)
    injection e1 with e1
    injection e1 with e3 e1
    injection e1 with e4 e5
    rw [e4,e2,List.getElem_map]
    rw [List.getElem?_eq_getElem (by omega)] at hnk
    injection hnk with hnk
    rw [hnk]
   have hcl:N≤csR.length:=by obtain ⟨_,h2,_,h4,_⟩:=id hR; dsimp only at h2 h4; omega
   obtain ⟨m6,hm6,hm6l⟩:∃ k:Nat,k1%(6:Int)=(k:Int)∧(k:Int) < 6:=by
    have h1:=Int.emod_nonneg k1 (b:=(6:Int)) (by omega)
    have h2:=Int.emod_lt_of_pos k1 (b:=(6:Int)) (by omega)
    exact ⟨(k1%(6:Int)).toNat,by omega,by omega⟩
   obtain ⟨m12,hm12,hm12l⟩:∃ k:Nat,k1%(12:Int)=(k:Int)∧(k:Int) < 12:=by
    have h1:=Int.emod_nonneg k1 (b:=(12:Int)) (by omega)
    have h2:=Int.emod_lt_of_pos k1 (b:=(12:Int)) (by omega)
    exact ⟨(k1%(12:Int)).toNat,by omega,by omega⟩
   have hk1b:-9223372036854775808≤k1∧k1≤9223372036854775807:=hk1
   obtain ⟨vl,hvl⟩:∃ v:List Int,[nk+1,nk - 1,0,-1,k1,(m12:Int)]=v:=⟨_,rfl⟩
   obtain ⟨v,hv,hv0⟩:∃ v,vl[m6]?=some v∧v∈vl:=⟨vl[m6]'(by rw [← hvl]; show m6 < 6; omega),List.getElem?_eq_getElem _,List.getElem_mem _⟩
   have hvi:aj v:=by
    rw [← hvl] at hv0
    simp only [List.mem_cons,List.not_mem_nil,or_false] at hv0
    unfold aj
    omega
   refine Zs ?_
   refine dY (own':=(Bk bR csR 3)::(Bk p8 [Pt y.x.pO,Pt y.x.pF,Pt y.pR] 64)::(p4,Obj.cells #[Vi k0,Vi k1,Vi k2,Vi k3] 53)::y.own (min (max 50 0) 1000000) s z []) (ro':=[(w,fun _=>True)]) (fun w1 h=>h) ?_
   refine Zr (Xv rfl (bp (j:=0) (off':=0) u53 cT rfl rfl Zo rfl) ?_)
   refine Rn [7,0,31] ?_
   refine Xc (v:=Vi (kk:Nat)) rfl Tryz.func43 rfl (fun w1 hw1=>by rw [← hkk]; exact ix k0 N w1 hk0 (by omega)) ?_
   refine Rn [1,2] ?_
   refine ew 24 [(true,0),(true,1),(true,2),(true,3),(true,4),(true,5),(true,6),(true,7),(true,8),(true,9),(true,10),(true,11),(true,12),(true,13),(true,14),(true,15),(true,16),(true,18),(true,19),(true,20),(false,17),(true,21),(true,22),(true,23)] Zk Zk ?_
   refine Rn [0,0,0,0] ?_
   refine Xv rfl (ae ij cT rfl rfl (hkk1) rfl) (Xl rfl u3 rfl (aa (vs:=csR) (v:=Vi nk) (.head _) (by rw [Nat.zero_add,Nat.mul_one]; exact hck)) (Xv rfl (bg (c:=nk+1) rfl rfl rfl (by omega)) ?_))
   refine Rn [0,0] ?_
   refine Xv rfl (ae ij cT rfl rfl (hkk1) rfl) (Xl rfl u3 rfl (aa (vs:=csR) (v:=Vi nk) (.head _) (by rw [Nat.zero_add,Nat.mul_one]; exact hck)) (Xv rfl (dH (c:=nk - 1) rfl rfl rfl (by omega)) (Xv rfl (bp (j:=1) (off':=1) u53 cT rfl rfl Zo rfl) ?_)))
   refine Rn [7] ?_
   refine Xv rfl (bp (j:=1) (off':=1) u53 cT rfl rfl Zo rfl) ?_
   refine Rn [7] ?_
   refine Xc (v:=Vi (m12:Nat)) rfl Tryz.func43 rfl (fun w1 hw1=>by rw [← hm12]; exact ix k1 12 w1 hk1 (by decide)) ?_
   refine Xv rfl (bp (j:=1) (off':=1) u53 cT rfl rfl Zo rfl) ?_
   refine Rn [7] ?_
   refine Xc (v:=Vi (m6:Nat)) rfl Tryz.func43 rfl (fun w1 hw1=>by rw [← hm6]; exact ix k1 6 w1 hk1 (by decide)) ?_
   refine ac (cs:=[Vi (nk+1),Vi (nk - 1),Vi 0,Vi (-1),Vi k1,Vi (m12:Nat)]) rfl rfl rfl ij cT rP rfl rfl rfl ?_
   intro p78
   refine Rn [46] ?_
   refine Xl rfl u3 rfl (aa (vs:=[Vi (nk+1),Vi (nk - 1),Vi 0,Vi (-1),Vi k1,Vi (m12:Nat)]) (v:=Vi v) (.head _) (by rw [Nat.zero_add,Nat.mul_one]; show ([nk+1,nk - 1,0,-1,k1,(m12:Int)].map (Value.int .i64))[m6]?=_; rw [hvl,List.getElem?_map,hv]; rfl)) ?_
   refine Xv rfl (ae ij cT rfl rfl (hkk1) rfl) ?_
   refine aG (cs:=csR) (off:=0+kk*1) (e:=3) (l2:=(Bk p8 [Pt y.x.pO,Pt y.x.pF,Pt y.pR] 64)::(p4,Obj.cells #[Vi k0,Vi k1,Vi k2,Vi k3] 53)::y.own (min (max 50 0) 1000000) s z []) [_] rfl rfl rfl rfl cT rfl (by show 0+kk*1+1≤csR.length; omega) ?_
   refine Ze ?_
   exact cv (some (bR,csR.take kk++(Vi v).cells.toList++csR.drop (kk+1),cR),ns.set kk v) ⟨row_set hR hkk1,by rw [List.length_set]; exact hN,AB hni hvi⟩ Zu (fun w1 h=>(h.less Ls (fun _ h=>h)).to (by rw [Nat.zero_add,Nat.mul_one]; rfl))
  refine eA ?_
  exact cv (R,ns) ⟨hR,hN,hni⟩ Zu (fun w1 h=>h)
 rintro ⟨R,ns⟩ ⟨hR,hnN,hni⟩
 refine Rn [144] ?_
 dsimp only at hR hnN hni
 refine Rn [3,0] ?_
 refine x_bytesT rfl rfl u9 jU u5 rfl ?_
 intro b86 cp86 cs86 hcp86 hcl86 hcs86
 obtain ⟨j2,hj2,hj2l⟩:∃ k:Nat,k2%(E1.size:Int)=(k:Int)∧(k:Int) < (E1.size:Nat):=by
  have h1:=Int.emod_nonneg k2 (b:=(E1.size:Int)) (by omega)
  have h2:=Int.emod_lt_of_pos k2 (b:=(E1.size:Int)) (by omega)
  exact ⟨(k2%(E1.size:Int)).toNat,by omega,by omega⟩
 have hj2b:j2 < E1.size:=by omega
 refine Rn [1,2,5] ?_
 refine bc 10 ?_
 refine Xm ?_
 refine Xv rfl (bp (j:=2) (off':=2) u53 cT rfl rfl Zo rfl) (Xl rfl u3 rfl (aa (vs:=[Vi k0,Vi k1,Vi k2,Vi k3]) (off:=2) (v:=Vi k2) (List.mem_cons_of_mem _ (List.mem_append_right _ (.tail _ (.head _)))) rfl) ?_)
 refine Rn [0,31] ?_
 refine Xc (v:=Vi (j2:Nat)) rfl Tryz.func43 rfl (fun w1 hw1=>by rw [← hj2]; exact ix k2 E1.size w1 hk2 (by omega)) ?_
 refine Xv rfl (bp (j:=3) (off':=3) u53 cT rfl rfl Zo rfl) (Xl rfl u3 rfl (aa (vs:=[Vi k0,Vi k1,Vi k2,Vi k3]) (off:=3) (v:=Vi k3) (List.mem_cons_of_mem _ (List.mem_append_right _ (.tail _ (.head _)))) rfl) (Xv (v:=Value.int .u8 (((rG k3).toNat:Nat):Int)) rfl (by rw [← yu]; exact me u3 u5 rfl) (Xv rfl (ae jU lq rfl rfl (hj2b) rfl) ?_)))
 refine x_storeT (cs:=cs86) (off:=0+j2*1) (e:=5) (fz:=(cs86.length,cs86.length+1)) (l2:=aA 3 R++((Bk p8 [Pt y.x.pO,Pt y.x.pF,Pt y.pR] 64)::(p4,Obj.cells #[Vi k0,Vi k1,Vi k2,Vi k3] 53)::y.own (min (max 50 0) 1000000) s z [])) [] rfl rfl rfl rfl lq rfl (by show 0+j2*1+1≤cs86.length; omega) (by show 0+j2*1+1≤cs86.length; omega) ?_
 refine Rn [2,5] ?_
 refine dY (own':=(b86,Obj.cells (cs86.take j2++(Value.int .u8 (((rG k3).toNat:Nat):Int)).cells.toList++cs86.drop (j2+1)).toArray 5 (cs86.length,cs86.length+1))::(aA 3 R++((Bk p8 [Pt y.x.pO,Pt y.x.pF,Pt y.pR] 64)::(p4,Obj.cells #[Vi k0,Vi k1,Vi k2,Vi k3] 53)::y.own (min (max 50 0) 1000000) s z []))) (ro':=[(w,fun _=>True)]) (fun w1 h=>h.to (by rw [Nat.zero_add,Nat.mul_one]; rfl)) ?_
 obtain ⟨csB,hcsB⟩:∃ v,cs86.take j2++(Value.int .u8 (((rG k3).toNat:Nat):Int)).cells.toList++cs86.drop (j2+1)=v:=⟨_,rfl⟩
 obtain ⟨bs,hbs⟩:∃ v,E1.data.toList.set j2 (rG k3)=v:=⟨_,rfl⟩
 have hbl:bs.length=E1.size:=by rw [← hbs,List.length_set]; simp
 have htk:csB.take E1.size=ea bs:=by rw [← hcsB,← hbs]; exact byC_put hcs86 hcl86 hj2b
 rw [hcsB]
 obtain ⟨m1,hm1,hm1l⟩:∃ k:Nat,k2%((E1.size+1:Nat):Int)=(k:Int)∧(k:Int) < (E1.size+1:Nat):=by
  have h1:=Int.emod_nonneg k2 (b:=((E1.size+1:Nat):Int)) (by omega)
  have h2:=Int.emod_lt_of_pos k2 (b:=((E1.size+1:Nat):Int)) (by omega)
  exact ⟨(k2%((E1.size+1:Nat):Int)).toNat,by omega,by omega⟩
 have hm1b:m1≤E1.size:=by omega
 obtain ⟨S1,hS1⟩:∃ S:ByteArray,(⟨(cF ns).toArray⟩:ByteArray)=S:=⟨_,rfl⟩
 have hS1z:S1.size≤610:=by rw [← hS1]; have:=(zO (l:=ns) (by omega) hni).2; omega
 obtain ⟨nq,hnq⟩:∃ v:Nat,N - N%3=v:=⟨_,rfl⟩
 obtain ⟨S7,hS7⟩:∃ S:ByteArray,(⟨(cF (ns.take nq)).toArray⟩:ByteArray)=S:=⟨_,rfl⟩
 have hS7z:S7.size≤610:=by rw [← hS7]; have:=(zO (l:=ns.take nq) (by rw [List.length_take]; omega) (fun n hn=>hni n (List.mem_of_mem_take hn))).2; rw [List.length_take] at this; omega
 obtain ⟨S3,hS3⟩:∃ S:ByteArray,(⟨bs.toArray⟩:ByteArray)=S:=⟨_,rfl⟩
 have hS3z:S3.size≤610:=by rw [← hS3]; show bs.toArray.size≤610; rw [List.size_toArray]; omega
 obtain ⟨S5,hS5⟩:∃ S:ByteArray,E1.extract 0 m1=S:=⟨_,rfl⟩
 have hS5z:S5.size≤610:=by rw [← hS5,ByteArray.size_extract]; omega
 obtain ⟨S4,hS4⟩:∃ S:ByteArray,E1++⟨#[120]⟩=S:=⟨_,rfl⟩
 have hS4z:S4.size≤611:=by rw [← hS4,ByteArray.size_append]; show _+1≤611; omega
 have hrd:∀ w1,Mem w1 ((b86,Obj.cells (csB).toArray 5 (cs86.length,cs86.length+1))::(aA 3 R++((Bk p8 [Pt y.x.pO,Pt y.x.pF,Pt y.pR] 64)::(p4,Obj.cells #[Vi k0,Vi k1,Vi k2,Vi k3] 53)::y.own (min (max 50 0) 1000000) s z []))) [(w,fun _=>True)]→ab i8 (fun _=>True) w1 (au R N) ns:=fun w1 h=>dy (e:=3) hR hnN.symm hni h (fun q hq=>List.mem_cons_of_mem _ (List.mem_append_left _ hq)) (fun _ _=>trivial)
 refine ew 27 [(true,0),(true,1),(true,2),(true,3),(true,4),(true,5),(true,6),(true,7),(true,8),(true,9),(true,10),(true,11),(true,12),(true,13),(true,14),(true,15),(true,16),(true,17),(true,18),(true,19),(true,20),(true,21),(true,22),(true,23),(true,24),(false,25),(true,26)] Zk Zk ?_
 refine Rn [0,0] ?_
 refine Xc (v:=Value.string S1) rfl Tryz.func44 rfl (fun w1 hw1=>by
  have h:=xy w1 (hrd w1 hw1) (by omega)
  rw [hS1] at h; exact h) ?_
 refine Xm ?_
 refine Xv (v:=Value.string S3) rfl (by rw [← hS3]; exact ji bs jU u5 u9 rfl hbl.symm (fun j hj=>aa (vs:=csB) (.head _) (by rw [Nat.zero_add]; exact byC_cell htk hbl.symm hj))) (Xm ?_)
 refine Xv (v:=Value.string S4) rfl (by rw [← hS4]; exact cK rfl rfl (by show E1.size+1≤_; omega)) (Xm ?_)
 refine Xv rfl (bp (j:=2) (off':=2) u53 cT rfl rfl Zo rfl) (Xl rfl u3 rfl (aa (vs:=[Vi k0,Vi k1,Vi k2,Vi k3]) (off:=2) (v:=Vi k2) (List.mem_cons_of_mem _ (List.mem_append_right _ (.tail _ (.head _)))) rfl) ?_)
 refine Rn [0,53] ?_
 refine Xv rfl (bg (c:=((E1.size+1:Nat):Int)) rfl rfl (by omega) (by omega)) (Xc (v:=Vi (m1:Nat)) rfl Tryz.func43 rfl (fun w1 hw1=>by rw [← hm1]; exact ix k2 (E1.size+1:Nat) w1 hk2 (by omega)) ?_)
 refine Xv (v:=Value.string S5) rfl (by rw [← hS5]; exact iF u9 rfl rfl (by omega)) ?_
 refine Rn [0,0,0,31,0,31] ?_
 refine Xv (v:=Vi ((N%3:Nat):Int)) rfl (mw (b:=3) rfl rfl (by decide)) (Xv rfl (dH (c:=((nq:Nat):Int)) rfl rfl (by omega) (by omega)) (Xv rfl (qe (j:=nq) ij cT rfl rfl (by have:=(hR.2); cases R with | none=>simp only at this; show nq≤0; omega | some r=>obtain ⟨q1,_⟩:=this; show nq≤r.2.2; omega)) ?_))
 refine Xc (v:=Value.string S7) rfl Tryz.func44 rfl (fun w1 hw1=>by
  have h:=xy w1 (ab.take (A:=jN R) (c:=tA R) (xs:=ns) nq (by omega) (by have h:=hrd w1 hw1; rw [← hnN] at h; exact h)) (by rw [List.length_take]; omega)
  rw [hS7] at h; exact h) ?_
 refine ac (cs:=[Value.string E1,Value.string S1,Value.string S3,Value.string S4,Value.string S5,Value.string raw,Value.string S7]) rfl rfl rfl ez gG kA rfl rfl rfl ?_
 intro p122
 refine Rn [1,2,5,5] ?_
 obtain ⟨ts,hts⟩:∃ q:List ByteArray,[E1,S1,S3,S4,S5,raw,S7]=q:=⟨_,rfl⟩
 have htl:ts.length=7:=by rw [← hts]; rfl
 have htz:∀ t∈ts,t.size≤2000000:=by
  rw [← hts]
  simp only [List.forall_mem_cons,List.not_mem_nil,false_imp_iff,implies_true,and_true]
  omega
 refine dY (own':=(Bk p122 (ts.map Value.string) 9)::(Bk p8 [Pt y.x.pO,Pt y.x.pF,Pt y.pR] 64)::(p4,Obj.cells #[Vi k0,Vi k1,Vi k2,Vi k3] 53)::y.own (min (max 50 0) 1000000) s z []) (ro':=[(w,fun _=>True)]) (fun w1 h=>by rw [← hts]; exact h.less (.cons_cons _ (.cons _ (List.sublist_append_right _ _))) (fun _ h=>h)) ?_
 refine Rn [18,1,2,14] ?_
 refine aO (σ:=Nat) (fun i=>i≤7) (fun i=>[(7,Value.bool true),(8,Pt p8),(16,Value.slice (some ⟨p122,0,none⟩) 7 7),(17,Vi (i:Nat))]) (fun i=>(Bk p122 (ts.map Value.string) 9)::(Bk p8 [Pt y.x.pO,Pt y.x.pF,Pt y.pR] 64)::(p4,Obj.cells #[Vi k0,Vi k1,Vi k2,Vi k3] 53)::y.own (min (max 50 0) 1000000) s z []) (fun i=>[(w,fun _=>True)]) (fun i=>7 - i) (0) ((Nat.zero_le _)) (aC Zu (fun _ h=>h)) ?_
 rintro i hiL
 refine Rn [144,5,3,0,0,31,24,2,10] fun b126 hb126=>Aw (fun hc126=>?_) fun hc126=>?_
 ·simp only [hb126,Qz,ne_eq] at hc126
  have hi:i < 7:=by omega
  have hti:i < ts.length:=by omega
  obtain ⟨t,ht0⟩:∃ q,ts[i]=q:=⟨_,rfl⟩
  have htz1:t.size≤2000000:=by rw [← ht0]; exact htz _ (List.getElem_mem hti)
  have hcell:(ts.map Value.string)[0+i*1]?=some (Value.string t):=by rw [Nat.zero_add,Nat.mul_one,List.getElem?_map,List.getElem?_eq_getElem hti,ht0]; rfl
  obtain ⟨oT,hoT⟩:∃ v,xb t=v:=⟨_,rfl⟩
  refine Rn [16,5,14,5] ?_
  refine ew 12 [(true,0),(true,1),(true,2),(true,3),(true,4),(true,5),(false,6),(true,7),(true,8),(true,9),(true,10),(true,11)] Zk Zk ?_
  refine Rn [4,7,0,0,46] ?_
  refine Xl rfl u9 rfl (aa (vs:=ts.map Value.string) (v:=Value.string t) (.head _) hcell) ?_
  refine fq (τ:=Option (Nat×Nat×Array MapEntry×Nat×List EN)) (fun q=>.tuple #[.pointer (q.map fun v=>⟨v.1,0,none⟩),Vi (if q.isSome then 0 else 11)]) (fun q=>oT=q.map (·.2.2.2.2)∧∀ v∈q,MapC Tryz.prog 3 v.2.2.1 v.2.2.2.1 (fR v.2.2.2.2)) (fun q=>(q.elim [] fun v=>[(Bk v.1 (cJ y.x.pF (min (max 50 0) 1000000) v.2.1) 38),(v.2.1,Obj.map v.2.2.1 v.2.2.2.1)])++((Bk p122 (ts.map Value.string) 9)::(Bk p8 [Pt y.x.pO,Pt y.x.pF,Pt y.pR] 64)::(p4,Obj.cells #[Vi k0,Vi k1,Vi k2,Vi k3] 53)::y.own (min (max 50 0) 1000000) s z [])) rfl rfl rfl Tryz.func45 Zk rfl (fun w1 hw1=>(AU (pF:=y.x.pF) 50 t w1 htz1 (hL.later hw1.b)).mono fun e w2 ⟨q,h1,h2,h3,h4⟩=>⟨q,h1,h4.b,⟨hoT▸h2,h3⟩,hw1.join2 h4⟩) ?_
  rintro qp ⟨hqp,hqM⟩
  refine Rn [0,20,20,1,1,2,5] ?_
  refine ew 15 [(true,0),(true,1),(true,2),(true,3),(true,4),(true,5),(true,6),(true,7),(true,8),(false,9),(true,10),(true,11),(true,12),(true,13),(true,14)] Zk Zk ?_
  refine Rn [4,7,11,4,7,0,0,46] ?_
  refine Xl rfl u9 rfl (aa (vs:=ts.map Value.string) (v:=Value.string t) (List.mem_append_right _ (.head _)) hcell) ?_
  refine fq (τ:=Option (Nat×ak×List EN)) (fun q=>.tuple #[.pointer (q.map fun v=>⟨v.1,0,none⟩),Vi (if q.isSome then 0 else 11)]) (fun q=>oT=q.map (·.2.2)∧∀ v∈q,ag 10 v.2.1 v.2.2.length (ax du v.2.2)) (fun q=>(q.elim [] fun v=>dG v.1 y.pG 50 v.2.1 v.2.2.length)++((qp.elim [] fun v=>[(Bk v.1 (cJ y.x.pF (min (max 50 0) 1000000) v.2.1) 38),(v.2.1,Obj.map v.2.2.1 v.2.2.2.1)])++((Bk p122 (ts.map Value.string) 9)::(Bk p8 [Pt y.x.pO,Pt y.x.pF,Pt y.pR] 64)::(p4,Obj.cells #[Vi k0,Vi k1,Vi k2,Vi k3] 53)::y.own (min (max 50 0) 1000000) s z []))) rfl rfl rfl Tryz.func46 Zk rfl (fun w1 hw1=>(r_OpenL (pG:=y.pG) 50 t w1 htz1).mono fun e w2 ⟨q,h1,h2,h3,h4⟩=>⟨q,h1,h4.b,⟨hoT▸h2,h3⟩,hw1.join2 h4⟩) ?_
  rintro qr ⟨hqr,hqR⟩
  refine Rn [0,20,20,1,1,2,5] ?_
  by_cases h0:oT=none
  ·rw [h0] at hqp hqr
   have eqp:qp=none:=by cases qp with | none=>rfl | some _=>cases hqp
   have eqr:qr=none:=by cases qr with | none=>rfl | some _=>cases hqr
   subst eqp eqr
   refine bc 32 ?_
   refine Rn [0,0,37] fun b154 hb154=>?_
   obtain rfl:b154=false:=hb154.trans (decide_eq_false (fun q=>q rfl))
   refine Rn [0,29] ?_
   refine cz rfl rfl rfl rfl rfl (v:=Value.bool true) (Ab (p:=none) AD rfl rfl) ?_
   refine Rn [29] ?_
   refine cz rfl rfl rfl rfl rfl (v:=Value.bool true) (Ab (p:=none) u62 rfl rfl) (db rfl rfl rfl rfl rfl (v_bneq rfl rfl u4) fun b160 hb160=>?_)
   obtain rfl:b160=false:=hb160.trans (by simp)
   refine Rn [25] fun b161 hb161=>?_
   obtain rfl:b161=false:=hb161
   refine Rn [0,29] ?_
   refine cz rfl rfl rfl rfl rfl (v:=Value.bool false) (Ac (p:=none) AD rfl rfl) ?_
   refine Rn [29,33,33,33,33,33,33,33,33] ?_
   refine kM rfl rfl rfl rfl ?_
   refine kM rfl rfl rfl rfl ?_
   refine kM rfl rfl rfl rfl ?_
   refine kM rfl rfl rfl rfl ?_
   refine kM rfl rfl rfl rfl ?_
   refine kM rfl rfl rfl rfl ?_
   refine kM rfl rfl rfl rfl ?_
   refine Rn [33] ?_
   refine db rfl rfl rfl rfl rfl (lz (v:=false) rfl rfl) fun b182 hb182=>?_
   obtain rfl:b182=false:=hb182
   refine Rn [25] fun b183 hb183=>?_
   obtain rfl:b183=false:=hb183
   refine Rn [2,10] (Aw (fun hc183=>?_) fun hc183=>?_)
   ·cases hc183
   refine Rn [45,27,17,18,0,26,1,13] ?_
   exact aJ (i+1) hi (by show 7 - (i+1) < 7 - i; omega) Zu (fun w1 h=>h.less ((List.sublist_append_right _ _).trans (List.sublist_append_right _ _)) (fun _ h=>h))
  obtain ⟨Lq,hLq⟩:∃ L,oT=some L:=by cases oT with | none=>exact absurd rfl h0 | some L=>exact ⟨L,rfl⟩
  obtain ⟨hbk,hsrt,hn5,hen⟩:=AA (hoT.trans hLq)
  rw [hLq] at hqp hqr
  obtain ⟨pP,mP,esP,ckP,rfl⟩:∃ a b c d,qp=some (a,b,c,d,Lq):=by
   cases qp with
   | none=>cases hqp
   | some v=>obtain ⟨a,b,c,d,L⟩:=v; injection hqp with hqp; exact ⟨a,b,c,d,by rw [hqp]⟩
  obtain ⟨pQ,RQ,rfl⟩:∃ a b,qr=some (a,b,Lq):=by
   cases qr with
   | none=>cases hqr
   | some v=>obtain ⟨a,b,L⟩:=v; injection hqr with hqr; exact ⟨a,b,by rw [hqr]⟩
  have hMC:=hqM _ rfl
  have hRQ:=hqR _ rfl
  dsimp only at hMC hRQ
  refine bc 32 ?_
  refine Rn [0,0,37] fun b154 hb154=>?_
  obtain rfl:b154=false:=hb154.trans (decide_eq_false (fun q=>q rfl))
  refine Rn [0,29] ?_
  refine cz rfl rfl rfl rfl rfl (v:=Value.bool false) (Ab (p:=some ⟨pP,0,none⟩) AD rfl rfl) ?_
  refine Rn [29] ?_
  refine cz rfl rfl rfl rfl rfl (v:=Value.bool false) (Ab (p:=some ⟨pQ,0,none⟩) u62 rfl rfl) (db rfl rfl rfl rfl rfl (v_bneq rfl rfl u4) fun b160 hb160=>?_)
  obtain rfl:b160=false:=hb160.trans (by simp)
  refine Rn [25] fun b161 hb161=>?_
  obtain rfl:b161=false:=hb161
  refine Rn [0,29] ?_
  refine db rfl rfl rfl rfl rfl (Ac (p:=some ⟨pP,0,none⟩) AD rfl rfl) fun b164 hb164=>?_
  obtain rfl:b164=true:=hb164.trans rfl
  refine Rn [29,29] ?_
  refine dc (v:=Value.string t) rfl rfl rfl rfl rfl Tryz.func18 Zk rfl (fun w1 hw1=>by
   have h:=g_EncO w1 hsrt hn5 hen hMC (aa (vs:=cJ y.x.pF (min (max 50 0) 1000000) mP) (List.mem_append_right _ (.head _)) rfl w1 hw1) (hw1.own_at _ (List.mem_append_right _ (.tail _ (.head _))))
   rw [hbk] at h; exact h) ?_
  refine Rn [29,29,89] ?_
  refine cz rfl rfl rfl rfl rfl (aW u9 rfl rfl (aa (vs:=ts.map Value.string) (v:=Value.string t) (List.mem_append_right _ (List.mem_append_right _ (.head _))) hcell)) ?_
  refine Rn [91] fun b172 hb172=>?_
  obtain rfl:b172=false:=hb172.trans (decide_eq_false (fun q=>q rfl))
  refine Rn [29,29] ?_
  refine dc (v:=Value.string t) rfl rfl rfl rfl rfl Tryz.func41 Zk rfl (fun w1 hw1=>by
   have h:=r_EncO w1 (aa (vs:=[Pt y.pG,Vi 50,au RQ Lq.length]) (off:=2) (.head _) rfl w1 hw1) (hw1.rowIn (fun p hp=>.tail _ (List.mem_append_left _ hp))) hRQ hn5 hen
   rw [hbk] at h; exact h) ?_
  refine Rn [29,29,89] ?_
  refine cz rfl rfl rfl rfl rfl (aW u9 rfl rfl (aa (vs:=ts.map Value.string) (v:=Value.string t) (List.mem_append_right _ (List.mem_append_right _ (.head _))) hcell)) ?_
  refine Rn [91] fun b180 hb180=>?_
  obtain rfl:b180=false:=hb180.trans (decide_eq_false (fun q=>q rfl))
  refine Rn [104] fun b181 hb181=>?_
  obtain rfl:b181=false:=hb181
  refine Rn [97] fun b182 hb182=>?_
  obtain rfl:b182=false:=hb182
  refine Rn [25] fun b183 hb183=>?_
  obtain rfl:b183=false:=hb183
  refine Rn [2,10] (Aw (fun hc183=>?_) fun hc183=>?_)
  ·cases hc183
  refine Rn [45,27,17,18,0,26,1,13] ?_
  exact aJ (i+1) hi (by show 7 - (i+1) < 7 - i; omega) Zu (fun w1 h=>h.less ((List.sublist_append_right _ _).trans (List.sublist_append_right _ _)) (fun _ h=>h))
 refine Rn [34,19,19,35,17,3,0,1,2,6] ?_
 refine aw rfl rfl (fun w' hm=>⟨?_,hm.b⟩)
 rfl
open Go.RowKit Go.PK
def laidL:List (String×DataW Unit):=[("math/bits.deBruijn32tab",Rows.laid_math_bits_deBruijn32tab),("math/bits.deBruijn64tab",Rows.laid_math_bits_deBruijn64tab),("internal/strconv.uint64pow10",Rows.laid_internal_strconv_uint64pow10),("unicode/utf8.acceptRanges",Rows.laid_unicode_utf8_acceptRanges),("strconv.ErrRange",Rows.laid_strconv_ErrRange),("strconv.ErrSyntax",Rows.laid_strconv_ErrSyntax),("unicode/utf8.first",Rows.laid_unicode_utf8_first)]
theorem pD {W:World} (h:laidMetH Tryz.prog laidL W):laidMet Tryz.prog laidL W:=by
 have h1:=(laidMetH_iff.1 h).1
 rwa [show (laidL.filter fun x=>x.2.handleName?.isNone)=laidL from by kernel_rfl] at h1
theorem laid_tab {W:World} (h:laidMet Tryz.prog laidL W):Lib.TabIs Tryz.prog W "internal/strconv.uint64pow10" .u64 Lib.pow10Tab:=by
 have h1:=h.filter fun x=>x.1 == "internal/strconv.uint64pow10"
 have e:(laidL.filter fun x=>x.1 == "internal/strconv.uint64pow10")=[("internal/strconv.uint64pow10",Lib.tabData .u64 Lib.pow10Tab)]:=by kernel_rfl
 rw [e] at h1
 exact Lib.tabIs_of_head (g:=3) (t:=289) (e:=151) (n:=20) Zk Zk Zk Zk Zk Zk h1
theorem star: "*"++ "errors.errorString"= "*errors.errorString":=by decide
theorem row104 (u:TypeId) (h:Tryz.prog.typeName? 3 u=some "*errors.errorString"):u=283 :=
 typeName_ptr_named (nm:= "errors.errorString") (by rw [star]; kernel_rfl) Zk (by decide) u (by rw [star]; exact h)
theorem laid_syn {W:World} (h:laidMet Tryz.prog laidL W):∃ tp p,W.var? Tryz.prog "strconv.ErrSyntax"=some #[.iface tp p]:=by
 have h1:=h.filter fun x=>x.1 == "strconv.ErrSyntax"
 have e:(laidL.filter fun x=>x.1 == "strconv.ErrSyntax")=[("strconv.ErrSyntax",.iface "*errors.errorString" (.ptr (.agg [.lit (.string [105,110,118,97,108,105,100,32,115,121,110,116,97,120])])))]:=by kernel_rfl
 rw [e] at h1
 obtain ⟨a0,s0,hv0,_⟩:=laid_sentinel (g:=0) (ti:=175) (tp:=283) (te:=285) (ts:=9) h1 Zk Zk u175 row104 u283 u285 rfl rfl u9 Zk Zk
 exact ⟨_,_,hv0⟩
theorem laid_rng {W:World} (h:laidMet Tryz.prog laidL W):∃ tp p,W.var? Tryz.prog "strconv.ErrRange"=some #[.iface tp p]:=by
 have h1:=h.filter fun x=>x.1 == "strconv.ErrRange"
 have e:(laidL.filter fun x=>x.1 == "strconv.ErrRange")=[("strconv.ErrRange",.iface "*errors.errorString" (.ptr (.agg [.lit (.string [118,97,108,117,101,32,111,117,116,32,111,102,32,114,97,110,103,101])])))]:=by kernel_rfl
 rw [e] at h1
 obtain ⟨a0,s0,hv0,_⟩:=laid_sentinel (g:=1) (ti:=175) (tp:=283) (te:=285) (ts:=9) h1 Zk Zk u175 row104 u283 u285 rfl rfl u9 Zk Zk
 exact ⟨_,_,hv0⟩
theorem ld_of {W:World} (h:laidMetH Tryz.prog laidL W) (hS:W.ShapedOpen Tryz.prog):LD W:=⟨laid_tab (pD h),Tryz.laysM146.s1_3 W hS,laid_syn (pD h),laid_rng (pD h)⟩
theorem laid_met (os:Os) (args:Array Value):laidMet Tryz.prog laidL ((World.laidAll Tryz.prog os laidL).forCall (fun _ _=>0) ⟨#[],args,[]⟩).memory :=
 laidMet_laidAll args Zk Zk
theorem bulk_one {H:Type} (d:DataW H):1≤Rows.uptoBulk d:=by
 cases d with
 | lit l=>cases l <;> simp [Rows.uptoBulk]
 | nil=>simp [Rows.uptoBulk]
 | ptr d=>simp [Rows.uptoBulk]
 | slice elems spare=>simp [Rows.uptoBulk]
 | agg parts=>simp [Rows.uptoBulk]
 | iface t d=>simp [Rows.uptoBulk]
 | map entries=>simp [Rows.uptoBulk]
 | held h=>simp [Rows.uptoBulk]
def meas (H:Type):Meas H:=⟨Rows.uptoBulk,Rows.uptoBulkAll,fun _=>by simp [Rows.uptoBulk],fun _ _=>by simp [Rows.uptoBulk],fun _=>by simp [Rows.uptoBulk],fun _ _=>by simp [Rows.uptoBulkAll],bulk_one⟩
open Go.RowKit Go.PK
open Go.RowKit Go.PK
theorem rdr_ac4:Rdr Tryz.prog 42 rn :=
 rdr_conv (U:=tyAc4U) rfl ac4_conv (vg u42 Zk (by decide) (.cons rfl (wE u3 Zk) (.cons rfl (wE u3 Zk) (.cons rfl (wE u3 Zk) (.cons rfl (wE u3 Zk) (.nil _))))))
end Go.Proofs.YtifekogdhjabaaaGreatDoor
