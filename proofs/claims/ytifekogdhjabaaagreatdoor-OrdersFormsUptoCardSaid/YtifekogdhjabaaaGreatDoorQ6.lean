/- Of the proofs of YtifekogdhjabaaaGreatDoor: Xi Xj Ya Yb Yc Yd Ye Yf Yg Clone Yh Yi Yj Yk Za Zb Zc Ze Zf Keys Zg Zh Zi Zj Zk Zl, put together. -/
import Derived.Test.YtifekogdhjabaaaGreatDoorQ5
import Derived.Test.YtifekogdhjabaaaGreatDoorQ2
import Derived.Shelf.SlGeneric
import Derived.Shelf.SlMaps.Clone
import Derived.Ground.SlmcProg
import Derived.Test.YtifekogdhjabaaaGreatDoorProg
import Derived.Test.YtifekogdhjabaaaGreatDoorQ1
import Derived.RangeFuncBound
import Derived.Test.YtifekogdhjabaaaGreatDoorQ3
import Derived.Shelf.SlIterI.Nil
import Derived.Shelf.SortM.Plain
import Derived.Shelf.SortM.SortNone
import Derived.Ground.GgzProg
import Derived.Ground.SlgmProg
import Derived.Shelf.SlIterI.Sorted
import Derived.Test.YtifekogdhjabaaaGreatDoorQ4
set_option linter.unusedVariables false
set_option linter.unusedSimpArgs false
set_option maxRecDepth 100000
set_option maxHeartbeats 4000000

namespace Go.Proofs.YtifekogdhjabaaaGreatDoor
open Go.RowKit Go.PK
theorem ap25:(Tryz.prog.info? 25).map (fun j=>(j.zero,j.size,j.bytes))=some (some (.agg #[Vi 0,Vi 0,Vi 0,Vi 0,Vi 0,Vi 0,Vi 0,Vi 0,Vi 0]),9,72):=by kernel_rfl
theorem yP (l:List Seg) (k:Nat):(kK l k).okA:=by
 have z:aj 0:=by unfold aj; decide
 exact ⟨⟨kU _ _ _,z,(ki _).1,(ki _).2,kU _ _ _,kU _ _ _⟩,z,z,z⟩
theorem qR (l:List Seg) (k:Nat):(ga l k).okA:=by
 have z:aj 0:=by unfold aj; decide
 exact ⟨⟨di _,z,di _,di _,di _,di _⟩,z,z,z⟩
theorem oL {v:Value} {ls:List PK.Ord} {D:Nat→Prop} (w:World) (hls:ab dE D w v ls)  :
  Calls Tryz.prog 26 #[v] w fun e w'=>∃ q,e=.returned q∧Later w w'∧ab aZ (fun b=>w.heap.size≤b) w' q (bH ls):=by
 obtain ⟨A,cp,rfl,hlc,hmx,_⟩:=id hls
 refine enter Tryz.func26 rfl Tryz.ntmps26 rfl ?_
 refine Rn [3,1,9,0] ?_
 refine Xh rfl Tryz.func71 rfl (fun w1 hw1=>qQ w1 (hls.keep (aV.later hw1.b))) fun b5 hb5=>?_
 refine Rn [1,2,5,3,0,43,2,10] fun b7 hb7=>Aw (fun hc7=>?_) fun hc7=>?_
 ·have hno:¬dB ls:=by rw [hb7,hb5] at hc7; simpa using hc7
  refine Rn [3,1,2,6,8] ?_
  refine aw rfl rfl (fun w' hm=>?_)
  unfold bH
  rw [if_neg hno]
  exact ⟨_,rfl,hm.b,aT⟩
 have hyes:dB ls:=by rw [hb7,hb5] at hc7; simpa using hc7
 obtain ⟨_,y2,y3⟩:=id hyes
 obtain ⟨t1,t2⟩:=fe y3
 refine Rn [23,0,0] ?_
 refine Xc rfl Tryz.func74 rfl (fun w1 hw1=>xk w1 (hls.keep (aV.later hw1.b)) y3 (by omega)) ?_
 refine Xc rfl Tryz.func73 rfl (fun w1 hw1=>jC (ba ls) w1 t1 (by unfold aj; omega)) ?_
 refine Xd (R:=fun v wa wb=>ab aZ (fun b=>wa.heap.size≤b) wb v (bo ls (ai (ba ls)))) rfl Tryz.func72 rfl (fun w1 hw1=>(vE w1 (hls.keep (aV.later hw1.b)) (ai (ba ls)) y3 (by omega) (fJ (by unfold aj; omega))).mono fun e w2 ⟨v,h1,h2,h3⟩=>⟨_,h1,h2,h3⟩) fun v12 wa12 wb12 hm12 hl12 hR12=>?_
 refine Rn [1,2,6] ?_
 refine aw rfl rfl (fun w' hm=>?_)
 unfold bH
 rw [if_pos hyes]
 exact ⟨_,rfl,hm.b,hR12.keep (aV.made0 hm hm12 (by simp) (by simp))⟩
theorem zx {v:Value} {l:List Seg} {D:Nat→Prop} (w:World) (hl:ab aZ D w v l) :
  Calls Tryz.prog 91 #[v] w fun e w'=>∃ q,e=.returned (.tuple #[q,Vi (va l).2])∧Later w w'∧ab dE (fun b=>w.heap.size≤b) w' q (va l).1:=by
 obtain ⟨A,cp,rfl,hlc,hmx,_⟩:=id hl
 obtain ⟨sb,so,EA,ec,hS⟩:=kg hl (l.length - 2)
 obtain ⟨eb,eo,FA,fc,hE⟩:=kh (K:=l.length - 2 < l.length) (fun h=>(hS h).2.2.2.2.2) 0
 have e4:((l.length:Nat):Int).tmod 4=((l.length%4:Nat):Int):=rfl
 refine enter Tryz.func91 rfl Tryz.ntmps91 rfl ?_
 refine Rn [3,1,1,2,5,3,0,31,24,0,21,61] fun b21 hb21=>?_
 refine Xi rfl rfl rfl (fun hg0=>by subst hg0; (try simp only [Qy]); exact jL rfl rfl (by decide)) ?_
 refine Rn [74,25,0,21,61,63,25,2,10] fun b26 hb26 b27 hb27 b31 hb31 b32 hb32=>Aw (fun hc32=>?_) fun hc32=>?_
 ·have hno:¬okR l:=fun ⟨⟨q1,q2,q3⟩,_⟩=>by
   rw [hb32,hb31,hb27,hb26,hb21,e4] at hc32
   simp only [Bool.or_eq_true,decide_eq_true_eq,ne_eq] at hc32
   omega
  refine Rn [3,1,1,2,6,8] ?_
  refine s7 rfl rfl rfl (fun w' hm=>?_)
  rw [oK hno]
  exact ⟨_,rfl,hm.b,aT⟩
 have hsh:vC l:=by
  rw [hb32,hb31,hb27,hb26,hb21,e4] at hc32
  simp only [Bool.or_eq_false_iff,decide_eq_false_iff_not,ne_eq,Decidable.not_not] at hc32
  unfold vC; omega
 obtain ⟨s1,s2,s3⟩:=id hsh
 have hcnt:4*nj l+5=l.length:=by unfold nj; omega
 have h2:l.length - 2 < l.length:=by omega
 refine Rn [23,1,2,5,3,1,2,14] ?_
 refine aO (σ:=Nat×ak) (fun x=>x.1≤nj l∧cZ dE (fun _=>False) w x.2 ((List.range x.1).map (kK l))∧∀ j,j < x.1→oC l j) (fun x=>[(0,Value.slice A l.length cp),(4,au x.2 x.1),(5,Vi ((4*x.1+2:Nat):Int))]) (fun x=>aA 25 x.2) (fun x=>[(w,fun _=>True)]) (fun x=>nj l - x.1) ((0,none)) (⟨Nat.zero_le _,cZ.nil,fun j hj=>absurd hj (Nat.not_lt_zero _)⟩) (aC Zu (fun _ h=>h)) ?_
 rintro ⟨k,R⟩ ⟨hk,hT,hoks⟩
 refine Rn [144] ?_
 dsimp only at hk hT hoks
 have hln:((List.range k).map (kK l)).length=k:=by simp
 refine Rn [5,3,0,0,31] ?_
 refine Xv rfl (dH rfl rfl rfl (by omega)) ?_
 refine Rn [24,2,12] fun b37 hb37=>Aw (fun hc37=>?_) fun hc37=>?_
 ·have hkc:k < nj l:=by omega
  refine Rn [16,5,14,3,0,0] ?_
  refine Xc rfl Tryz.func136 rfl (fun w1 hw1=>c_rrec (4*k+2) w1 (hl.keep (aV.later hw1.b))) ?_
  refine Rn [0,20,48,28,32,1,9,0,0] fun b45 hb45 p6=>?_
  refine Xv rfl (bg (c:=((4*k+3:Nat):Int)) rfl rfl (by omega) (by omega)) (Xc rfl Tryz.func137 rfl (fun w1 hw1=>vA (4*k+3) 0 1 w1 (hl.keep (aV.later hw1.b))) ?_)
  refine Rn [0,20,48,1,1,9,0,0] fun b52 hb52=>?_
  refine Xv rfl (bg (c:=((4*k+4:Nat):Int)) rfl rfl (by omega) (by omega)) (Xc rfl Tryz.func137 rfl (fun w1 hw1=>vA (4*k+4) 0 1 w1 (hl.keep (aV.later hw1.b))) ?_)
  refine Rn [0,20,48,1,1,9,0,0] fun b59 hb59=>?_
  refine Xv rfl (bg (c:=((4*k+5:Nat):Int)) rfl rfl (by omega) (by omega)) (Xc rfl Tryz.func137 rfl (fun w1 hw1=>vA (4*k+5) 0 1 w1 (hl.keep (aV.later hw1.b))) ?_)
  refine Rn [0,20,48,1,1,2,5,3,0,43,0,21,64,25,0,21] fun b66 hb66 b68 hb68 b71 hb71 b72 hb72=>?_
  refine Rn [64,25,0,21,64,25,2,10] fun b75 hb75 b76 hb76 b79 hb79 b80 hb80=>Aw (fun hc80=>?_) fun hc80=>?_
  ·have hno:¬okR l:=fun ⟨_,q,_⟩=>by
    obtain ⟨q1,q2,q3,q4⟩:=q k hkc
    rw [hb80,hb79,hb76,hb75,hb72,hb71,hb68,hb66,hb59,hb52,hb45,q1,q2,q3,q4] at hc80
    simp at hc80
   refine Rn [3,1,1,2,6,8,15,8,8,15,8] ?_
   refine s7 rfl rfl rfl (fun w' hm=>?_)
   rw [oK hno]
   exact ⟨_,rfl,hm.b,aT⟩
  have hok:oC l k:=by
   rw [hb80,hb79,hb76,hb75,hb72,hb71,hb68,hb66,hb59,hb52,hb45] at hc80
   simp only [Bool.or_eq_false_iff,Bool.not_eq_false'] at hc80
   exact ⟨hc80.1.1.1,hc80.1.1.2,hc80.1.2,hc80.2⟩
  refine Rn [16,18,0,0,39,0,0] ?_
  refine Xv rfl (aH (places:=[(0,1),(1,1),(2,2),(4,1),(5,1),(6,1),(7,1),(8,1)]) f4 gI Zk rfl rfl) ?_
  refine ac (cs:=(kK l k).cells) rfl rfl rfl qx cm gI rfl rfl rfl ?_
  intro p87
  obtain ⟨css,hcl,hrow,hrd⟩:=hT
  rw [hln] at hcl hrow
  refine be (e:=25) [(p87,Obj.cells (kK l k).cells.toArray 25),(Bk p6 [Vi (ep l (4*k+2)).1.1,Vi (ep l (4*k+2)).1.2] 23)] (l2:=[]) R (len:=k) (xs:=css.flatten) rfl rfl rfl rfl (by rw [List.append_nil]; rfl) hrow qx ap25 rfl rfl (m:=1) (news:=(kK l k).cells) (fun i hi=>aa (vs:=(kK l k).cells) (.head _) (by rw [Nat.zero_add]; exact List.getElem?_eq_getElem hi)) rfl Zx (by omega) fun R' hR'=>?_
  refine Rn [1,13,27,17,18,0] ?_
  refine Xv rfl (bg (c:=((4*k+6:Nat):Int)) rfl rfl (by omega) (by omega)) ?_
  refine Rn [1,13] ?_
  rw [List.append_nil]
  exact aJ (x:=(k,R)) (μ:=fun q:Nat×ak=>nj l - q.1) (k+1,R') ⟨by dsimp only; omega,by dsimp only; rw [kW]; exact nV hln hcl hrd hR' ⟨rfl,yP l k⟩,fun j hj=>by rcases Nat.lt_succ_iff_lt_or_eq.1 hj with h | rfl; (· exact hoks j h); exact hok⟩ (by simp only; omega) (by dsimp only; rw [show 4*(k+1)+2=4*k+6 by omega]; repeat (first | exact je.nil | refine je.cons rfl ?_)) (fun w1 h=>h.less (List.sublist_append_right _ _) (fun _ h=>h))
 obtain rfl:k=nj l:=by omega
 refine Rn [34,19,19,35,17,3,0] ?_
 refine Xh rfl Tryz.func71 rfl (fun w1 hw1=>qQ (ls:=fC l) w1 (hT.any (D':=fun _=>True) (e:=25) hw1 (fun q hq=>hq) (fun _ _=>trivial) (by simp))) fun b90 hb90=>?_
 refine Rn [1,9,0,0,31] ?_
 refine Xv rfl (dH (c:=((l.length - 2:Nat):Int)) rfl rfl (by omega) (by omega)) (Xv rfl (ae jH bQ (congrArg (fun A=>some (Value.slice A l.length cp)) (hS h2).1) rfl (h2) rfl) (Xv rfl (bj (vs:=[Value.string (bw l (l.length - 2)).tag,.slice EA (bw l (l.length - 2)).els.length ec]) jE rfl bQ rfl (fun j hj=>an (.head _) trivial (by match j,hj with | 0,_=>exact (hS h2).2.2.1 | 1,_=>exact (hS h2).2.2.2.1))) ?_))
 refine Rn [28,32,2,5,3,0,43,0,22,40,61,74,25,0,22,40] fun p15 b98 hb98 b103 hb103 b104 hb104=>?_
 refine Xi rfl rfl rfl (fun hg0=>by subst hg0; (try simp only [Qy]); have h1:(bw l (l.length - 2)).els.length=1:=(by have h0:=hb104.symm; simp only [hb98,hb103,Bool.or_eq_false_iff,decide_eq_false_iff_not,ne_eq,Decidable.not_not] at h0; omega); exact ae (j:=0) dd fw (congrArg (fun A=>some (Value.slice A (bw l (l.length - 2)).els.length ec)) (hE h2 (by omega)).1) rfl (by omega) rfl) (Xi rfl rfl rfl (fun hg0=>by subst hg0; (try simp only [Qy]); have h1:(bw l (l.length - 2)).els.length=1:=(by have h0:=hb104.symm; simp only [hb98,hb103,Bool.or_eq_false_iff,decide_eq_false_iff_not,ne_eq,Decidable.not_not] at h0; omega); exact aW ez rfl rfl (an (.head _) trivial (by rw [Nat.mul_one]; exact (hE h2 (by omega)).2.2.1))) ?_)
 refine Rn [61,74,25,2,10] fun b111 hb111 b112 hb112=>Aw (fun hc112=>?_) fun hc112=>?_
 ·have hno:¬okR l:=fun ⟨_,_,q1,q2,_⟩=>by
   obtain ⟨q3,q4⟩:=(xm h2).1 q2
   rw [hb112,hb111,hb104,hb103,hb98,hb90,decide_eq_true q1] at hc112
   simp [q3,q4] at hc112
  refine Rn [3,1,1,2,6,8] ?_
  refine s7 rfl rfl rfl (fun w' hm=>?_)
  rw [oK hno]
  exact ⟨_,rfl,hm.b,aT⟩
 have hall:dB (fC l)∧(bw l (l.length - 2)).els.length=1∧(dI (bw l (l.length - 2)).els 0).length=2:=by
  rw [hb112,hb111,hb104,hb103,hb98,hb90] at hc112
  simp only [Bool.or_eq_false_iff,Bool.not_eq_false',decide_eq_true_eq,decide_eq_false_iff_not,ne_eq,Decidable.not_not] at hc112
  exact ⟨hc112.1.1,by omega,by omega⟩
 obtain ⟨hpay,m1,m2⟩:=hall
 obtain ⟨p1,p2,p3⟩:=id hpay
 have m0:0 < (bw l (l.length - 2)).els.length:=by omega
 obtain ⟨e1,_,e3,e4'⟩:=hE h2 m0
 obtain ⟨fb,fo,f1,_,f3,fok⟩:=od e4' (k:=1) (by omega)
 have htot:=totE_in h2 m0 (by omega)
 rw [← htot] at f3 fok
 refine Rn [23,4,7] ?_
 refine Xv rfl (ae (j:=0) dd fw (congrArg (fun A=>some (Value.slice A (bw l (l.length - 2)).els.length ec)) e1) rfl (by omega) rfl) (Xl rfl ez rfl (an (.head _) trivial (by rw [Nat.mul_one]; exact e3)) (Xv rfl (ae (j:=1) ez gG (congrArg (fun A=>some (Value.slice A (dI (bw l (l.length - 2)).els 0).length fc)) f1) rfl (by omega) rfl) (Xl rfl u9 rfl (an (.head _) trivial (by rw [Nat.mul_one]; exact f3)) (Xc rfl Tryz.func141 rfl (fun w1 hw1=>nu (dR l) 18 w1 (by decide)) ?_))))
 refine Rn [0,20,48,1,1,2,5,3,0,43,2,10] fun b122 hb122 b124 hb124=>Aw (fun hc124=>?_) fun hc124=>?_
 ·have hno:¬okR l:=fun ⟨_,_,_,_,q,_⟩=>by
   rw [hb124,hb122,q] at hc124
   cases hc124
  refine Rn [3,1,1,2,6,8] ?_
  refine s7 rfl rfl rfl (fun w' hm=>?_)
  rw [oK hno]
  exact ⟨_,rfl,hm.b,aT⟩
 have hval:(dV (dR l) 18).2=true:=by rw [hb124,hb122] at hc124; simpa using hc124
 refine Rn [23,0,4,7] ?_
 refine Xv rfl (ae (j:=0) dd fw (congrArg (fun A=>some (Value.slice A (bw l (l.length - 2)).els.length ec)) e1) rfl (by omega) rfl) (Xl rfl ez rfl (an (.head _) trivial (by rw [Nat.mul_one]; exact e3)) (Xv rfl (ae (j:=1) ez gG (congrArg (fun A=>some (Value.slice A (dI (bw l (l.length - 2)).els 0).length fc)) f1) rfl (by omega) rfl) (Xl rfl u9 rfl (an (.head _) trivial (by rw [Nat.mul_one]; exact f3)) (Xd (R:=fun v wa wb=>ab aZ (fun b=>wa.heap.size≤b) wb v (bo (fC l) (dR l))) rfl Tryz.func72 rfl (fun w1 hw1=>(vE (ls:=fC l) w1 (hT.any (D':=fun _=>True) (e:=25) hw1 (fun q hq=>List.mem_cons_of_mem _ hq) (fun _ _=>trivial) (by simp)) (dR l) p3 (by omega) fok).mono fun e w2 ⟨v,h1,h2,h3⟩=>⟨_,h1,h2,h3⟩) fun v132 wa132 wb132 hm132 hl132 hR132=>?_))))
 refine Xm ?_
 refine Xh rfl Tryz.func138 rfl (fun w1 hw1=>c_Same (xs:=bo (fC l) (dR l)) (ys:=l) w1 (bY hR132 hw1 (by simp) hm132) (hl.keep (aV.later hw1.b))) fun b134 hb134=>?_
 refine Rn [1,2,5,3,0,43,2,10] fun b136 hb136=>Aw (fun hc136=>?_) fun hc136=>?_
 ·have hno:¬okR l:=fun ⟨_,_,_,_,_,q⟩=>by
   rw [hb136,hb134,decide_eq_true q] at hc136
   cases hc136
  refine Rn [3,1,1,2,6,8] ?_
  refine s7 rfl rfl rfl (fun w' hm=>?_)
  rw [oK hno]
  exact ⟨_,rfl,hm.b,aT⟩
 have hsame:bo (fC l) (dR l)=l:=by
  rw [hb136,hb134] at hc136
  simpa using hc136
 have hokr:okR l:=⟨hsh,hoks,hpay,(xm h2).2 ⟨m1,m2⟩,hval,hsame⟩
 refine Rn [16,5,3,0,0] ?_
 refine Xc rfl Tryz.func74 rfl (fun w1 hw1=>xk (ls:=fC l) w1 (hT.any (D':=fun _=>True) (e:=25) hw1 (fun q hq=>List.mem_cons_of_mem _ hq) (fun _ _=>trivial) (by simp)) p3 (by omega)) ?_
 refine Rn [37,2,12] fun b140 hb140=>Aw (fun hc140=>?_) fun hc140=>?_
 ·refine Rn [3,1,1,2,6,8] ?_
  refine s7 rfl rfl rfl (fun w' hm=>?_)
  rw [show va l=([],60) from by
   unfold va; rw [if_pos hokr,if_neg]
   intro q; apply hc140; exact q]
  exact ⟨_,rfl,hm.b,aT⟩
 refine Rn [23,0,1,1,2,6] ?_
 refine s7 rfl rfl rfl (fun w' hm=>?_)
 rw [show va l=(fC l,0) from by
  unfold va; rw [if_pos hokr,if_pos]
  exact hc140]
 exact ⟨_,rfl,hm.b,(hT.any (e:=25) hm (fun q hq=>List.mem_cons_of_mem _ hq) (fun q hq=>hm.newer (by simp) (List.mem_cons_of_mem _ hq)) (by simp))⟩
open Go.RowKit Go.PK
theorem nb {v:Value} {ls:List PK.Ord} {D:Nat→Prop} (w:World) (hls:ab dE D w v ls) (n:Int) (hw:∀ o∈ls,ej (pf o)) (hn:ls.length≤1000) (h0:0≤n) (hi:aj n) (hL:LD w) :
  Calls Tryz.prog 116 #[v,.string (ai n)] w fun e w'=>∃ q,e=.returned q∧Later w w'∧ab aZ (fun b=>w.heap.size≤b) w' q (bo ls (ai n)):=by
 obtain ⟨A,cp,rfl,hlc,hmx,_⟩:=id hls
 refine enter Tryz.func116 rfl Tryz.ntmps116 rfl ?_
 refine Rn [3,1,9] ?_
 refine ac (cs:=[Value.string (⟨#[49]⟩),Value.string (⟨#[73,78,86,79,73,67,58,68,58,57,54,65,58,85,78]⟩)]) rfl rfl rfl ez gG kA rfl rfl rfl ?_
 intro p8
 refine Xd rfl Tryz.func152 rfl (fun w1 hw1=>u7 es_unh.1 es_unh.2 rfl rfl (Nat.le_of_ble_eq_true rfl) w1 hw1 Zh (hL.later hw1.b)) fun v9 wa9 wb9 hm9 hl9 hR9=>?_
 obtain ⟨A9,c9,rfl,hs9⟩:=hR9
 refine ac (cs:=[Value.string (⟨#[51,56,48]⟩)]) rfl rfl rfl ez gG kA rfl rfl rfl ?_
 intro p10
 refine Xd rfl Tryz.func152 rfl (fun w1 hw1=>u7 es_bgm.1 es_bgm.2 rfl rfl (Nat.le_of_ble_eq_true rfl) w1 hw1 Zh (hL.later hw1.b)) fun v11 wa11 wb11 hm11 hl11 hR11=>?_
 obtain ⟨A11,c11,rfl,hs11⟩:=hR11
 refine ac (cs:=([[Value.string ⟨#[85,78,72]⟩,.slice A9 2 c9],[Value.string ⟨#[66,71,77]⟩,.slice A11 1 c11]]:List (List Value)).flatten) rfl rfl rfl jH bQ eY rfl rfl rfl ?_
 intro p12
 refine Rn [1,2,5,3,0,31,0,2,14] ?_
 refine qk (aA 134 (some (p12,([[Value.string ⟨#[85,78,72]⟩,.slice A9 2 c9],[Value.string ⟨#[66,71,77]⟩,.slice A11 1 c11]]:List (List Value)).flatten,2))) (List.Sublist.cons_cons _ (List.nil_sublist _)) (fun w0 hm0=>?_)
 have hmB:=hm0.less (own':=aA 134 (some (p12,([[Value.string ⟨#[85,78,72]⟩,.slice A9 2 c9],[Value.string ⟨#[66,71,77]⟩,.slice A11 1 c11]]:List (List Value)).flatten,2))) (List.Sublist.cons_cons _ (List.nil_sublist _)) (fun _ h=>h)
 have hT0:cZ aZ (dC w (aA 134 (some (p12,([[Value.string ⟨#[85,78,72]⟩,.slice A9 2 c9],[Value.string ⟨#[66,71,77]⟩,.slice A11 1 c11]]:List (List Value)).flatten,2)))) w0 (some (p12,([[Value.string ⟨#[85,78,72]⟩,.slice A9 2 c9],[Value.string ⟨#[66,71,77]⟩,.slice A11 1 c11]]:List (List Value)).flatten,2)) (dF++cc 0 (ls.take 0)):=qP (T:=aZ) (xs:=[]) (css:=[]) (css':=[[Value.string ⟨#[85,78,72]⟩,.slice A9 2 c9],[Value.string ⟨#[66,71,77]⟩,.slice A11 1 c11]]) (m:=2) (n:=0) rfl rfl (fun j h=>absurd h (Nat.not_lt_zero _)) (cE rfl (by decide)) rfl (.cons (bk (x:=⟨⟨#[85,78,72]⟩,[[⟨#[49]⟩],[⟨#[73,78,86,79,73,67]⟩,⟨#[68]⟩,⟨#[57,54,65]⟩,⟨#[85,78]⟩]]⟩) rfl (show (3:Nat)≤9223372036854775807 by decide) (hs9.keep (aV.made hmB (by first | repeat (first | exact List.Mem.head _ | apply List.Mem.tail) | simp) hm9 hm9.b.size))) (.cons (bk (x:=⟨⟨#[66,71,77]⟩,[[⟨#[51,56,48]⟩]]⟩) rfl (show (3:Nat)≤9223372036854775807 by decide) (hs11.keep (aV.made hmB (by first | repeat (first | exact List.Mem.head _ | apply List.Mem.tail) | simp) hm11 hm11.b.size))) .nil))
 refine aO (σ:=Nat×ak×World) (fun x=>x.1≤ls.length∧cZ aZ (dC w (aA 134 x.2.1)) x.2.2 x.2.1 (dF++cc 0 (ls.take x.1))) (fun x=>[(1,Value.string (ai n)),(0,Value.slice A ls.length cp),(13,Value.slice A ls.length cp),(14,Vi (ls.length:Nat)),(5,au x.2.1 (2+4*x.1)),(15,Vi (x.1:Nat))]) (fun x=>aA 134 x.2.1) (fun x=>(x.2.2,a7 (aA 134 x.2.1))::[(w,fun _=>True)]) (fun x=>ls.length - x.1) ((0,(some (p12,([[Value.string ⟨#[85,78,72]⟩,.slice A9 2 c9],[Value.string ⟨#[66,71,77]⟩,.slice A11 1 c11]]:List (List Value)).flatten,2)),w0)) (⟨Nat.zero_le _,hT0⟩) (aC Zu (fun _ h=>h.less (List.Sublist.refl _) (fun q hq=>by simp at hq ⊢; rcases hq with h | h; (· exact .inl h); simp [h]))) ?_
 rintro ⟨k,R,ws⟩ ⟨hk,hT⟩
 refine Rn [144] ?_
 dsimp only at hk hT
 have hln:=hl_len hk
 refine Rn [3,24,2,5,12] fun b16 hb16=>Aw (fun hc16=>?_) fun hc16=>?_
 ·have hkl:k < ls.length:=by omega
  obtain ⟨ob,oo,hA,_,hc,hoA⟩:=jW hls hkl
  obtain ⟨_,_,⟨r1,r2⟩,⟨r3,r4⟩,⟨r5,r6⟩,⟨r7,r8⟩,r9,r10⟩:=j1 (hw ls[k] (List.getElem_mem hkl))
  obtain ⟨⟨i1,_,i3,i4,i5,i6⟩,_⟩:=id hoA
  have ik:aj ((k+1:Nat):Int):=by unfold aj; omega
  have z1:=br i1
  have z5:=br i5
  have z6:=br i6
  have q27:=es_lin (n:=((k+1:Nat):Int)) (o:=ls[k]) (by omega) ik r3 r5 i3 i4
  have q33:=es_p3 (a:=79) (b:=78) r1 i1 (by decide) (by decide)
  have q39:=es_p3 (a:=52) (b:=55) r7 i5 (by decide) (by decide)
  have q45:=es_p4 (a:=65) (b:=65) (d:=65) r9 i6 (by decide) (by decide) (by decide)
  refine Rn [16,5,14,3,0] ?_
  refine Xv rfl (ae qx cm (congrArg (fun A=>some (Value.slice A ls.length cp)) hA) rfl (hkl) rfl) (Xv rfl (bj (vs:=ls[k].cells) f4 rfl cm rfl (fun j hj=>an (.tail _ (.head _)) trivial (hc j hj))) ?_)
  refine Rn [28,1,32,2] fun p7=>?_
  refine ew 28 [(true,0),(true,1),(true,2),(true,3),(true,4),(true,5),(true,6),(true,9),(true,10),(true,15),(true,16),(true,21),(true,22),(false,7),(false,8),(true,11),(true,12),(false,13),(false,14),(true,17),(true,18),(false,19),(false,20),(true,23),(true,24),(false,25),(false,26),(false,27)] Zk Zk ?_
  refine Rn [0,0] ?_
  refine Xv rfl (bg (c:=((k+1:Nat):Int)) rfl rfl (by omega) (by omega)) (Xc rfl Tryz.func115 rfl (fun w1 hw1=>de ((k+1:Nat):Int) w1 ik (hL.later hw1.b)) ?_)
  refine Rn [4] ?_
  refine Xv rfl (bj (vs:=[Vi ls[k].src,Vi ls[k].num]) l9 rfl iL rfl (fun j hj=>aa (vs:=ls[k].cells) Zh (by match j,hj with | 0,_=>rfl | 1,_=>rfl))) (Xc rfl Tryz.func153 rfl (fun w1 hw1=>qE ls[k].src ls[k].num w1 i3 i4 (hL.later hw1.b)) ?_)
  refine Rn [4,7,4,7,4,7] ?_
  refine ac (cs:=[Value.string (ai ((k+1:Nat):Int)),Value.string (⟨#[]⟩),Value.string (kB ls[k].src ls[k].num)]) rfl rfl rfl ez gG kA rfl rfl rfl ?_
  intro p27
  refine Xd rfl Tryz.func152 rfl (fun w1 hw1=>u7 q27.1 q27.2 rfl rfl (Nat.le_of_ble_eq_true rfl) w1 hw1 Zh (hL.later hw1.b)) fun v28 wa28 wb28 hm28 hl28 hR28=>?_
  obtain ⟨A28,c28,rfl,hs28⟩:=hR28
  refine Xc rfl Tryz.func115 rfl (fun w1 hw1=>de ls[k].id w1 i1 (hL.later hw1.b)) ?_
  refine Xv rfl (cK rfl rfl (by show 3+(ai _).size≤_; omega)) ?_
  refine ac (cs:=[Value.string ((⟨#[79,78,58]⟩:ByteArray)++ai ls[k].id)]) rfl rfl rfl ez gG kA rfl rfl rfl ?_
  intro p33
  refine Xd rfl Tryz.func152 rfl (fun w1 hw1=>u7 q33.1 q33.2 rfl rfl (Nat.le_of_ble_eq_true rfl) w1 hw1 Zh (hL.later hw1.b)) fun v34 wa34 wb34 hm34 hl34 hR34=>?_
  obtain ⟨A34,c34,rfl,hs34⟩:=hR34
  refine Xc rfl Tryz.func115 rfl (fun w1 hw1=>de ls[k].copies w1 i5 (hL.later hw1.b)) ?_
  refine Xv rfl (cK rfl rfl (by show 3+(ai _).size≤_; omega)) ?_
  refine ac (cs:=[Value.string ((⟨#[52,55,58]⟩:ByteArray)++ai ls[k].copies)]) rfl rfl rfl ez gG kA rfl rfl rfl ?_
  intro p39
  refine Xd rfl Tryz.func152 rfl (fun w1 hw1=>u7 q39.1 q39.2 rfl rfl (Nat.le_of_ble_eq_true rfl) w1 hw1 Zh (hL.later hw1.b)) fun v40 wa40 wb40 hm40 hl40 hR40=>?_
  obtain ⟨A40,c40,rfl,hs40⟩:=hR40
  refine Xc rfl Tryz.func115 rfl (fun w1 hw1=>de ls[k].price w1 i6 (hL.later hw1.b)) ?_
  refine Xv rfl (cK rfl rfl (by show 4+(ai _).size≤_; omega)) ?_
  refine ac (cs:=[Value.string ((⟨#[65,65,65,58]⟩:ByteArray)++ai ls[k].price)]) rfl rfl rfl ez gG kA rfl rfl rfl ?_
  intro p45
  refine Xd rfl Tryz.func152 rfl (fun w1 hw1=>u7 q45.1 q45.2 rfl rfl (Nat.le_of_ble_eq_true rfl) w1 hw1 Zh (hL.later hw1.b)) fun v46 wa46 wb46 hm46 hl46 hR46=>?_
  obtain ⟨A46,c46,rfl,hs46⟩:=hR46
  refine ac (cs:=([[Value.string ⟨#[76,73,78]⟩,.slice A28 3 c28],[Value.string ⟨#[82,70,70]⟩,.slice A34 1 c34],[Value.string ⟨#[81,84,89]⟩,.slice A40 1 c40],[Value.string ⟨#[80,82,73]⟩,.slice A46 1 c46]]:List (List Value)).flatten) rfl rfl rfl jH bQ eY rfl rfl rfl ?_
  intro p47
  obtain ⟨css,hcl,hrow,hrd⟩:=hT
  rw [hln] at hcl hrow
  refine be (e:=134) [(p47,Obj.cells ([[Value.string ⟨#[76,73,78]⟩,.slice A28 3 c28],[Value.string ⟨#[82,70,70]⟩,.slice A34 1 c34],[Value.string ⟨#[81,84,89]⟩,.slice A40 1 c40],[Value.string ⟨#[80,82,73]⟩,.slice A46 1 c46]]:List (List Value)).flatten.toArray 134),(Bk p45 [Value.string ((⟨#[65,65,65,58]⟩:ByteArray)++ai ls[k].price)] 9),(Bk p39 [Value.string ((⟨#[52,55,58]⟩:ByteArray)++ai ls[k].copies)] 9),(Bk p33 [Value.string ((⟨#[79,78,58]⟩:ByteArray)++ai ls[k].id)] 9),(Bk p27 [Value.string (ai ((k+1:Nat):Int)),Value.string (⟨#[]⟩),Value.string (kB ls[k].src ls[k].num)] 9),(p7,Obj.cells ls[k].cells.toArray 25)] (l2:=[]) R (len:=2+4*k) (xs:=css.flatten) rfl rfl rfl rfl (by rw [List.append_nil]; rfl) hrow jH qA rfl rfl (m:=4) (news:=([[Value.string ⟨#[76,73,78]⟩,.slice A28 3 c28],[Value.string ⟨#[82,70,70]⟩,.slice A34 1 c34],[Value.string ⟨#[81,84,89]⟩,.slice A40 1 c40],[Value.string ⟨#[80,82,73]⟩,.slice A46 1 c46]]:List (List Value)).flatten) (fun i hi=>aa (vs:=([[Value.string ⟨#[76,73,78]⟩,.slice A28 3 c28],[Value.string ⟨#[82,70,70]⟩,.slice A34 1 c34],[Value.string ⟨#[81,84,89]⟩,.slice A40 1 c40],[Value.string ⟨#[80,82,73]⟩,.slice A46 1 c46]]:List (List Value)).flatten) (.head _) (by rw [Nat.zero_add]; exact List.getElem?_eq_getElem hi)) rfl Zx (by omega) fun R' hR'=>?_
  refine Rn [1,13,27,17,18,26,0,13] ?_
  rw [List.append_nil]
  have hsub:(aA 134 R').Sublist ([(p47,Obj.cells ([[Value.string ⟨#[76,73,78]⟩,.slice A28 3 c28],[Value.string ⟨#[82,70,70]⟩,.slice A34 1 c34],[Value.string ⟨#[81,84,89]⟩,.slice A40 1 c40],[Value.string ⟨#[80,82,73]⟩,.slice A46 1 c46]]:List (List Value)).flatten.toArray 134),(Bk p45 [Value.string ((⟨#[65,65,65,58]⟩:ByteArray)++ai ls[k].price)] 9),(Bk p39 [Value.string ((⟨#[52,55,58]⟩:ByteArray)++ai ls[k].copies)] 9),(Bk p33 [Value.string ((⟨#[79,78,58]⟩:ByteArray)++ai ls[k].id)] 9),(Bk p27 [Value.string (ai ((k+1:Nat):Int)),Value.string (⟨#[]⟩),Value.string (kB ls[k].src ls[k].num)] 9),(p7,Obj.cells ls[k].cells.toArray 25)]++aA 134 R'):=List.sublist_append_right _ _
  refine qj (aA 134 R') hsub (fun w0 hm0=>?_)
  have hmB:=hm0.less hsub (fun _ h=>h)
  have hT':=qP (T:=aZ) (D:=dC w (aA 134 R')) (ws:=w0) (ys:=ei k ls[k]) hln hcl (fun j h1 h2=>aZ.keep (hrd j h1 h2) (aV.frz hm0 hsub (by simp))) hR' rfl (.cons (bk (x:=⟨⟨#[76,73,78]⟩,[[ai ((k+1:Nat):Int)],[⟨#[]⟩],[dD ls[k].src ls[k].num,⟨#[83,82,86]⟩]]⟩) rfl (show (3:Nat)≤9223372036854775807 by decide) (hs28.keep (aV.made hmB (by first | repeat (first | exact List.Mem.head _ | apply List.Mem.tail) | simp) hm28 hm28.b.size))) (.cons (bk (x:=⟨⟨#[82,70,70]⟩,[[⟨#[79,78]⟩,ai ls[k].id]]⟩) rfl (show (3:Nat)≤9223372036854775807 by decide) (hs34.keep (aV.made hmB (by first | repeat (first | exact List.Mem.head _ | apply List.Mem.tail) | simp) hm34 hm34.b.size))) (.cons (bk (x:=⟨⟨#[81,84,89]⟩,[[⟨#[52,55]⟩,ai ls[k].copies]]⟩) rfl (show (3:Nat)≤9223372036854775807 by decide) (hs40.keep (aV.made hmB (by first | repeat (first | exact List.Mem.head _ | apply List.Mem.tail) | simp) hm40 hm40.b.size))) (.cons (bk (x:=⟨⟨#[80,82,73]⟩,[[⟨#[65,65,65]⟩,ai ls[k].price]]⟩) rfl (show (3:Nat)≤9223372036854775807 by decide) (hs46.keep (aV.made hmB (by first | repeat (first | exact List.Mem.head _ | apply List.Mem.tail) | simp) hm46 hm46.b.size))) .nil))))
  exact aJ (x:=(k,R,ws)) (μ:=fun q:Nat×ak×World=>ls.length - q.1) (k+1,R',w0) ⟨by dsimp only; omega,by dsimp only; rw [na hkl]; exact hT'⟩ (by simp only; omega) (by dsimp only; rw [show 2+4*(k+1)=2+4*k+4 by omega]; repeat (first | exact je.nil | refine je.cons rfl ?_)) (fun w1 h=>h.less (List.Sublist.refl _) (fun q hq=>by simp at hq ⊢; rcases hq with h | h; (· exact .inl h); simp [h]))
 obtain rfl:k=ls.length:=by omega
 rw [List.take_length] at hT hln
 have q55:=es_p3 (a:=56) (b:=54) h0 hi (by decide) (by decide)
 have i61:aj ((4*ls.length+5:Nat):Int):=by unfold aj; omega
 have q61:=es_unt (n:=((4*ls.length+5:Nat):Int)) (by omega) i61
 refine Rn [34,19,19,35,17,3,0] ?_
 refine ac (cs:=[Value.string (⟨#[83]⟩)]) rfl rfl rfl ez gG kA rfl rfl rfl ?_
 intro p51
 refine Xd rfl Tryz.func152 rfl (fun w1 hw1=>u7 es_uns.1 es_uns.2 rfl rfl (Nat.le_of_ble_eq_true rfl) w1 hw1 Zh (hL.later hw1.b)) fun v52 wa52 wb52 hm52 hl52 hR52=>?_
 obtain ⟨A52,c52,rfl,hs52⟩:=hR52
 refine Xm ?_
 refine Xv rfl (cK rfl rfl (by have:=br hi; show 3+(ai _).size≤_; omega)) ?_
 refine ac (cs:=[Value.string ((⟨#[56,54,58]⟩:ByteArray)++ai n)]) rfl rfl rfl ez gG kA rfl rfl rfl ?_
 intro p55
 refine Xd rfl Tryz.func152 rfl (fun w1 hw1=>u7 q55.1 q55.2 rfl rfl (Nat.le_of_ble_eq_true rfl) w1 hw1 Zh (hL.later hw1.b)) fun v56 wa56 wb56 hm56 hl56 hR56=>?_
 obtain ⟨A56,c56,rfl,hs56⟩:=hR56
 refine Rn [0,31] ?_
 refine Xv rfl (bg (c:=((4*ls.length+5:Nat):Int)) rfl rfl (by omega) (by omega)) (Xc rfl Tryz.func115 rfl (fun w1 hw1=>de ((4*ls.length+5:Nat):Int) w1 i61 (hL.later hw1.b)) ?_)
 refine ac (cs:=[Value.string (ai ((4*ls.length+5:Nat):Int)),Value.string (⟨#[49]⟩)]) rfl rfl rfl ez gG kA rfl rfl rfl ?_
 intro p61
 refine Xd rfl Tryz.func152 rfl (fun w1 hw1=>u7 q61.1 q61.2 rfl rfl (Nat.le_of_ble_eq_true rfl) w1 hw1 Zh (hL.later hw1.b)) fun v62 wa62 wb62 hm62 hl62 hR62=>?_
 obtain ⟨A62,c62,rfl,hs62⟩:=hR62
 refine ac (cs:=([[Value.string ⟨#[85,78,83]⟩,.slice A52 1 c52],[Value.string ⟨#[77,79,65]⟩,.slice A56 1 c56],[Value.string ⟨#[85,78,84]⟩,.slice A62 2 c62]]:List (List Value)).flatten) rfl rfl rfl jH bQ eY rfl rfl rfl ?_
 intro p63
 obtain ⟨css,hcl,hrow,hrd⟩:=hT
 rw [hln] at hcl hrow
 refine be (e:=134) [(p63,Obj.cells ([[Value.string ⟨#[85,78,83]⟩,.slice A52 1 c52],[Value.string ⟨#[77,79,65]⟩,.slice A56 1 c56],[Value.string ⟨#[85,78,84]⟩,.slice A62 2 c62]]:List (List Value)).flatten.toArray 134),(Bk p61 [Value.string (ai ((4*ls.length+5:Nat):Int)),Value.string (⟨#[49]⟩)] 9),(Bk p55 [Value.string ((⟨#[56,54,58]⟩:ByteArray)++ai n)] 9),(Bk p51 [Value.string (⟨#[83]⟩)] 9)] (l2:=[]) R (len:=2+4*ls.length) (xs:=css.flatten) rfl rfl rfl rfl (by rw [List.append_nil]; rfl) hrow jH qA rfl rfl (m:=3) (news:=([[Value.string ⟨#[85,78,83]⟩,.slice A52 1 c52],[Value.string ⟨#[77,79,65]⟩,.slice A56 1 c56],[Value.string ⟨#[85,78,84]⟩,.slice A62 2 c62]]:List (List Value)).flatten) (fun i hi=>aa (vs:=([[Value.string ⟨#[85,78,83]⟩,.slice A52 1 c52],[Value.string ⟨#[77,79,65]⟩,.slice A56 1 c56],[Value.string ⟨#[85,78,84]⟩,.slice A62 2 c62]]:List (List Value)).flatten) (.head _) (by rw [Nat.zero_add]; exact List.getElem?_eq_getElem hi)) rfl Zx (by omega) fun R' hR'=>?_
 refine Rn [1,2,6] ?_
 rw [List.append_nil]
 refine aw rfl rfl (fun w' hm=>⟨_,rfl,hm.b,?_⟩)
 have hsub:=List.sublist_append_right ([(p63,Obj.cells ([[Value.string ⟨#[85,78,83]⟩,.slice A52 1 c52],[Value.string ⟨#[77,79,65]⟩,.slice A56 1 c56],[Value.string ⟨#[85,78,84]⟩,.slice A62 2 c62]]:List (List Value)).flatten.toArray 134),(Bk p61 [Value.string (ai ((4*ls.length+5:Nat):Int)),Value.string (⟨#[49]⟩)] 9),(Bk p55 [Value.string ((⟨#[56,54,58]⟩:ByteArray)++ai n)] 9),(Bk p51 [Value.string (⟨#[83]⟩)] 9)]:List (Nat×Obj)) (aA 134 R')
 have hmB:=hm.less hsub (fun _ h=>h)
 have hT':=qP (T:=aZ) (D:=dC w (aA 134 R')) (ws:=w') (ys:=fa ls.length (ai n)) hln hcl (fun j h1 h2=>aZ.keep (hrd j h1 h2) (aV.frz hm hsub (by simp))) hR' rfl (.cons (bk (x:=⟨⟨#[85,78,83]⟩,[[⟨#[83]⟩]]⟩) rfl (show (3:Nat)≤9223372036854775807 by decide) (hs52.keep (aV.made hmB (by first | repeat (first | exact List.Mem.head _ | apply List.Mem.tail) | simp) hm52 hm52.b.size))) (.cons (bk (x:=⟨⟨#[77,79,65]⟩,[[⟨#[56,54]⟩,ai n]]⟩) rfl (show (3:Nat)≤9223372036854775807 by decide) (hs56.keep (aV.made hmB (by first | repeat (first | exact List.Mem.head _ | apply List.Mem.tail) | simp) hm56 hm56.b.size))) (.cons (bk (x:=⟨⟨#[85,78,84]⟩,[[ai ((4*ls.length+5:Nat):Int)],[⟨#[49]⟩]]⟩) rfl (show (3:Nat)≤9223372036854775807 by decide) (hs62.keep (aV.made hmB (by first | repeat (first | exact List.Mem.head _ | apply List.Mem.tail) | simp) hm62 hm62.b.size))) .nil)))
 exact hT'.rd (e:=134) hmB (fun q hq=>hq) (fun _ h=>h.1) (fun q hq=>hmB.newer (by simp) hq) (by rw [List.length_append,hln]; rfl)
theorem sn {v:Value} {ls:List PK.Ord} {D:Nat→Prop} (w:World) (hls:ab dE D w v ls) (n:Int) {t:ByteArray} (hw:∀ o∈ls,ej (pf o)) (hn:ls.length≤1000) (h0:0≤n) (hi:aj n) (hL:LD w) (ht:ai n=t):Calls Tryz.prog 116 #[v,.string t] w fun e w'=>∃ q,e=.returned q∧Later w w'∧ab aZ (fun b=>w.heap.size≤b) w' q (bo ls t):=by
 subst ht; exact nb w hls n hw hn h0 hi hL
theorem qS {v:Value} {ls:List PK.Ord} {D:Nat→Prop} (w:World) (hls:ab dE D w v ls) (hL:LD w) :
  Calls Tryz.prog 114 #[v] w fun e w'=>∃ q,e=.returned q∧Later w w'∧ab aZ (fun b=>w.heap.size≤b) w' q (bH ls)∧((bH ls).length=0→q=.slice none 0 0):=by
 obtain ⟨A,cp,rfl,hlc,hmx,_⟩:=id hls
 have ilen:aj ((ls.length:Nat):Int):=by unfold aj; omega
 refine enter Tryz.func114 rfl Tryz.ntmps114 rfl ?_
 refine Rn [3,1,2,5,3,0,31] ?_
 refine ac (cs:=[Vi ((ls.length:Nat):Int)]) rfl rfl rfl ij cT rP rfl rfl rfl ?_
 intro p8
 refine Xh rfl Tryz.func164 rfl (fun w1 hw1=>gP 1 999 w1 (dy (D:=fun _=>True) (e:=3) (r:=some (p8,[Vi ((ls.length:Nat):Int)],1)) (n:=1) (ds:=[((ls.length:Nat):Int)]) (cE rfl (by decide)) rfl (by simpa using ilen) hw1 (fun q hq=>by rw [List.mem_singleton.1 hq]; exact .head _) (fun _ _=>trivial))) fun b9 hb9=>?_
 refine Rn [43,2,10] fun b10 hb10=>Aw (fun hc10=>?_) fun hc10=>?_
 ·have hno:¬dB ls:=fun ⟨q1,q2,_⟩=>by
   rw [hb10,hb9] at hc10
   simp [wi] at hc10
   omega
  refine Rn [3,1,2,6,8] ?_
  refine aw rfl rfl (fun w' hm=>?_)
  rw [show bH ls=[] from by unfold bH; rw [if_neg hno]]
  exact ⟨_,rfl,hm.b,aT,fun _=>rfl⟩
 have hlen:1≤ls.length∧ls.length≤999:=by
  rw [hb10,hb9] at hc10
  simp [wi] at hc10
  omega
 refine Rn [23,1,2,5,3,0,31,0,2,14] ?_
 refine aO (σ:=Nat) (fun k=>k≤ls.length∧∀ o∈ls.take k,ej (pf o)) (fun k=>[(0,Value.slice A ls.length cp),(3,Vi (ba (ls.take k))),(11,Value.slice A ls.length cp),(12,Vi (ls.length:Nat)),(13,Vi (k:Nat))]) (fun k=>[]) (fun k=>[(w,fun _=>True)]) (fun k=>ls.length - k) (0) (⟨Nat.zero_le _,fun o ho=>by simp at ho⟩) (aC Zu (fun _ h=>h.less (List.nil_sublist _) (fun _ h=>h))) ?_
 rintro k ⟨hk,hwr⟩
 refine Rn [144,3,24,2,5,12] fun b14 hb14=>Aw (fun hc14=>?_) fun hc14=>?_
 ·have hkl:k < ls.length:=by omega
  obtain ⟨ob,oo,hA,_,hc,hoA⟩:=jW hls hkl
  refine Rn [16,5,14,3] ?_
  refine Xv rfl (ae qx cm (congrArg (fun A=>some (Value.slice A ls.length cp)) hA) rfl (hkl) rfl) (Xv rfl (bj (vs:=ls[k].cells) f4 rfl cm rfl (fun j hj=>an (.head _) trivial (hc j hj))) ?_)
  refine Rn [28,32,9,4] fun p5=>?_
  refine aG [] rfl rfl rfl rfl cT rfl (by show 2≤9; decide) ?_
  refine Rn [2,5,5] ?_
  refine ey _ [(p5,Obj.cells (pf ls[k]).cells.toArray 25)] _ ?_
  refine Rn [18,39] ?_
  refine Xh rfl Tryz.func151 rfl (fun w1 hw1=>oh (pf ls[k]) w1 (pf_ok hoA)) fun b19 hb19=>?_
  refine Rn [43,2,10] fun b20 hb20=>Aw (fun hc20=>?_) fun hc20=>?_
  ·have hno:¬dB ls:=fun ⟨_,_,q⟩=>by
    rw [hb20,hb19,(bB _).2 (q ls[k] (List.getElem_mem hkl))] at hc20
    cases hc20
   refine Rn [3,1,2,6,8,15,8,8,15,8] ?_
   refine aw rfl rfl (fun w' hm=>?_)
   rw [show bH ls=[] from by unfold bH; rw [if_neg hno]]
   exact ⟨_,rfl,hm.b,aT,fun _=>rfl⟩
  have hyes:ej (pf ls[k]):=by
   rw [hb20,hb19] at hc20
   exact (bB _).1 (by simpa using hc20)
  obtain ⟨g1,g2,_⟩:=j1 hyes
  obtain ⟨t1,t2⟩:=fe hwr
  rw [List.length_take] at t2
  have hst:ba (ls.take (k+1))=ba (ls.take k)+ls[k].copies*ls[k].price:=by rw [gv hkl,j0]
  refine Rn [16,18,0,4,7,4,7] ?_
  refine Xv rfl (cY (c:=ls[k].copies*ls[k].price) rfl rfl rfl (by omega)) (Xv rfl (bg (c:=ba (ls.take (k+1))) rfl rfl hst.symm (by rw [hst]; omega)) ?_)
  refine Rn [1,13,27,17,18,26,0,13] ?_
  exact aJ (k+1) ⟨by omega,m9 hkl hwr hyes⟩ (by omega) Zu (fun w1 h=>h.less (List.nil_sublist _) (fun _ h=>h))
 obtain rfl:k=ls.length:=by omega
 rw [List.take_length] at hwr
 rw [List.take_length]
 have hyes:dB ls:=⟨hlen.1,hlen.2,hwr⟩
 obtain ⟨t1,t2⟩:=fe hwr
 have it:aj (ba ls):=by unfold aj; omega
 refine Rn [34,19,19,35,17,3,0,0] ?_
 refine Xc rfl Tryz.func115 rfl (fun w1 hw1=>de (ba ls) w1 it (hL.later hw1.b)) ?_
 refine Xd (R:=fun v wa wb=>ab aZ (fun b=>wa.heap.size≤b) wb v (bo ls (ai (ba ls)))) rfl Tryz.func116 rfl (fun w1 hw1=>(nb w1 (hls.keep (aV.later hw1.b)) (ba ls) hwr (by omega) t1 it (hL.later hw1.b)).mono fun e w2 ⟨v,h1,h2,h3⟩=>⟨_,h1,h2,h3⟩) fun v32 wa32 wb32 hm32 hl32 hR32=>?_
 refine Rn [1,2,6] ?_
 refine aw rfl rfl (fun w' hm=>?_)
 rw [show bH ls=bo ls (ai (ba ls)) from by unfold bH; rw [if_pos hyes]]
 exact ⟨_,rfl,hm.b,hR32.keep (aV.made0 hm hm32 (by simp) (by simp)),fun h=>by rw [cP] at h; omega⟩
theorem c_RdIA {v:Value} {l:List Seg} {D:Nat→Prop} (w:World) (hl:ab aZ D w v l) (hbig:gk l) (hL:LD w) (hC:0≤cA (dR l)∧ai (cA (dR l))=dR l) :
  Calls Tryz.prog 60 #[v] w fun e w'=>∃ q,e=.returned (.tuple #[q,Vi (iT l).2])∧Later w w'∧ab dE (fun b=>w.heap.size≤b) w' q (iT l).1:=by
 obtain ⟨A,cp,rfl,hlc,hmx,_⟩:=id hl
 refine enter Tryz.func60 rfl Tryz.ntmps60 rfl ?_
 refine Rn [3,1,1,9,1,2,5,3,1,2,14] ?_
 refine aO (σ:=Nat×ak) (fun x=>x.1≤min 1000 ((l.length - 3) / 4)∧cZ dE (fun _=>False) w x.2 ((List.range x.1).map (ga l))) (fun x=>[(0,Value.slice A l.length cp),(4,au x.2 x.1),(5,Vi ((4*x.1+2:Nat):Int))]) (fun x=>aA 25 x.2) (fun x=>[(w,fun _=>True)]) (fun x=>min 1000 ((l.length - 3) / 4) - x.1) ((0,none)) (⟨Nat.zero_le _,cZ.nil⟩) (aC Zu (fun _ h=>h)) ?_
 rintro ⟨k,R⟩ ⟨hk,hT⟩
 refine Rn [144] ?_
 dsimp only at hk hT
 have hln:((List.range k).map (ga l)).length=k:=by simp
 refine Rn [5,3,0] ?_
 refine Xv rfl (bg (c:=((4*k+6:Nat):Int)) rfl rfl (by omega) (by omega)) ?_
 refine Rn [0,31,24,0,21,61,67,30,2,12] fun b13 hb13 b17 hb17 b18 hb18=>Aw (fun hc18=>?_) fun hc18=>?_
 ·have hkc:k < min 1000 ((l.length - 3) / 4):=by omega
  refine Rn [16,5,14,18,0,0,0] ?_
  refine Xc rfl Tryz.func109 rfl (fun w1 hw1=>eG (4*k+2) 2 0 w1 (hl.keep (aV.later hw1.b))) ?_
  refine Xc rfl Tryz.func110 rfl (fun w1 hw1=>vB (kJ l (4*k+2) 2 0) w1 (eH hbig (4*k+2) 2 0) (hL.later hw1.b)) ?_
  refine Rn [0,0] ?_
  refine Xv rfl (bg (c:=((4*k+3:Nat):Int)) rfl rfl (by omega) (by omega)) (Xc rfl Tryz.func109 rfl (fun w1 hw1=>eG (4*k+3) 0 1 w1 (hl.keep (aV.later hw1.b))) ?_)
  refine Xc rfl Tryz.func108 rfl (fun w1 hw1=>e6 (kJ l (4*k+3) 0 1) w1 (Nat.le_trans (eH hbig (4*k+3) 0 1) (by decide)) (hL.later hw1.b)) ?_
  refine Rn [0,0] ?_
  refine Xv rfl (bg (c:=((4*k+4:Nat):Int)) rfl rfl (by omega) (by omega)) (Xc rfl Tryz.func109 rfl (fun w1 hw1=>eG (4*k+4) 0 1 w1 (hl.keep (aV.later hw1.b))) ?_)
  refine Xc rfl Tryz.func108 rfl (fun w1 hw1=>e6 (kJ l (4*k+4) 0 1) w1 (Nat.le_trans (eH hbig (4*k+4) 0 1) (by decide)) (hL.later hw1.b)) ?_
  refine Rn [0,0] ?_
  refine Xv rfl (bg (c:=((4*k+5:Nat):Int)) rfl rfl (by omega) (by omega)) (Xc rfl Tryz.func109 rfl (fun w1 hw1=>eG (4*k+5) 0 1 w1 (hl.keep (aV.later hw1.b))) ?_)
  refine Xc rfl Tryz.func108 rfl (fun w1 hw1=>e6 (kJ l (4*k+5) 0 1) w1 (Nat.le_trans (eH hbig (4*k+5) 0 1) (by decide)) (hL.later hw1.b)) ?_
  refine Xv rfl (aH (places:=[(0,1),(1,1),(2,2),(4,1),(5,1),(6,1),(7,1),(8,1)]) f4 gI Zk rfl rfl) ?_
  refine ac (cs:=(ga l k).cells) rfl rfl rfl qx cm gI rfl rfl rfl ?_
  intro p42
  obtain ⟨css,hcl,hrow,hrd⟩:=hT
  rw [hln] at hcl hrow
  refine be (e:=25) [(p42,Obj.cells (ga l k).cells.toArray 25)] (l2:=[]) R (len:=k) (xs:=css.flatten) rfl rfl rfl rfl (by rw [List.append_nil]; rfl) hrow qx ap25 rfl rfl (m:=1) (news:=(ga l k).cells) (fun i hi=>aa (vs:=(ga l k).cells) (.head _) (by rw [Nat.zero_add]; exact List.getElem?_eq_getElem hi)) rfl Zx (by omega) fun R' hR'=>?_
  refine Rn [1,13,27,17,18,0] ?_
  refine Xv rfl (bg (c:=((4*k+6:Nat):Int)) rfl rfl (by omega) (by omega)) ?_
  refine Rn [1,13] ?_
  rw [List.append_nil]
  exact aJ (x:=(k,R)) (μ:=fun q:Nat×ak=>min 1000 ((l.length - 3) / 4) - q.1) (k+1,R') ⟨by dsimp only; omega,by dsimp only; rw [kW]; exact nV hln hcl hrd hR' ⟨rfl,qR l k⟩⟩ (by simp only; omega) (by dsimp only; rw [show 4*(k+1)+2=4*k+6 by omega]; repeat (first | exact je.nil | refine je.cons rfl ?_)) (fun w1 h=>h.less (List.sublist_append_right _ _) (fun _ h=>h))
 obtain rfl:k=min 1000 ((l.length - 3) / 4):=by omega
 refine Rn [34,19,19,35,17,3,0] ?_
 refine Xd (R:=fun v wa wb=>∃ A1 c1,v=.slice A1 (bH (bh l)).length c1∧ab aZ (fun b=>wa.heap.size≤b) wb (.slice A1 (bH (bh l)).length c1) (bH (bh l))∧A1.isNone=decide ((bH (bh l)).length=0)) rfl Tryz.func114 rfl (fun w1 hw1=>(qS (ls:=bh l) w1 (hT.any (D':=fun _=>True) (e:=25) hw1 (fun q hq=>hq) (fun _ _=>trivial) (by simp)) (hL.later hw1.b)).mono fun e w2 ⟨v,h1,h2,h3,h4⟩=>sh h1 h2 h3 h4) fun v45 wa45 wb45 hm45 hl45 hR45=>?_
 obtain ⟨A1,c1,rfl,hr45,hn45⟩:=hR45
 refine Rn [1,2,5,3,0] ?_
 refine Xb rfl (kS jH rfl) fun b47 hb47=>?_
 refine Rn [0,21,61,21,61,74,25,2,10] fun b53 hb53 b54 hb54=>Aw (fun hc54=>?_) fun hc54=>?_
 ·have hno:¬(dB (bh l)∧(bH (bh l)).length=l.length):=fun ⟨q1,q2⟩=>by
   rw [hb54,hb53,hb47,hn45,q2] at hc54
   have q3:=fP (bh l)
   rw [if_pos q1,q2] at q3
   simp at hc54
   rw [hc54] at q3
   simp at q3
  refine Rn [3,1,1,2,6,8] ?_
  refine s7 rfl rfl rfl (fun w' hm=>?_)
  rw [show iT l=([],11) from by unfold iT; rw [if_neg hno]]
  exact ⟨_,rfl,hm.b,aT⟩
 have hyes:(bH (bh l)).length=l.length∧(bH (bh l)).length≠0:=by
  rw [hb54,hb53,hb47,hn45] at hc54
  simp only [Bool.or_eq_false_iff,decide_eq_false_iff_not,ne_eq,Decidable.not_not] at hc54
  exact ⟨by omega,hc54.1⟩
 obtain ⟨hle,hl0⟩:=hyes
 have hpay:dB (bh l):=by
  apply Classical.byContradiction; intro q; apply hl0; rw [fP,if_neg q]
 obtain ⟨p1,p2,p3⟩:=id hpay
 have hl5:l.length=4*(bh l).length+5:=by rw [← hle,fP,if_pos hpay]
 refine Rn [23,0,0,31] ?_
 refine Xv rfl (dH (c:=((l.length - 2:Nat):Int)) rfl rfl (by omega) (by omega)) (Xc rfl Tryz.func109 rfl (fun w1 hw1=>show Calls _ _ _ w1 (fun e w2=>e=.returned (.string (dR l))∧Later w1 w2) from eG (l.length - 2) 0 1 w1 (hl.keep (aV.later hw1.b))) ?_)
 refine Rn [1,2,5,3,0] ?_
 refine Xc rfl Tryz.func108 rfl (fun w1 hw1=>e6 (dR l) w1 (Nat.le_trans (eH hbig (l.length - 2) 0 1) (by decide)) (hL.later hw1.b)) ?_
 refine Rn [1,2,14,3,0,0] ?_
 refine Xh rfl Tryz.func111 rfl (fun w1 hw1=>sg (xs:=bH (bh l)) (ys:=l) w1 (bY hr45 hw1 (by simp) hm45) (hl.keep (aV.later hw1.b))) fun b65 hb65=>?_
 refine Rn [1,2,10] (Aw (fun hc62=>?_) fun hc62=>?_)
 ·have hsame:bH (bh l)=l:=by rw [hb65] at hc62; simpa using hc62
  refine Rn [3,0,1,1,2,6,15,8] ?_
  refine s7 rfl rfl rfl (fun w' hm=>?_)
  rw [show iT l=(bh l,0) from by unfold iT; rw [if_pos ⟨hpay,hle⟩,if_pos hsame]]
  exact ⟨_,rfl,hm.b,(hT.any (e:=25) hm (fun q hq=>hq) (fun q hq=>hm.newer (by simp) hq) (by simp))⟩
 have hdiff:¬bH (bh l)=l:=by rw [hb65] at hc62; simpa using hc62
 refine Rn [3,0,57] fun b69 hb69=>?_
 obtain rfl:b69=true:=by rw [hb69]; exact decide_eq_true hC.1
 refine Rn [0,21] ?_
 refine mc [] rfl rfl rfl rfl rfl Tryz.func115 Zk (fun hg=>by obtain ⟨hg0,_⟩:=hg; (try simp only [Qy]); refine ⟨_,rfl,?_⟩; exact fun w1 hw1=>de (cA (dR l)) w1 (di _) (hL.later hw1.b)) ?_
 refine Rn [21,92] fun b74 hb74=>?_
 obtain rfl:b74=true:=by rw [hb74]; exact decide_eq_true hC.2
 refine Rn [30] fun b75 hb75=>?_
 obtain rfl:b75=true:=hb75
 refine Rn [0,21,21] ?_
 refine nU (R:=fun v wa wb=>ab aZ (fun b=>wa.heap.size≤b) wb v (bo (bh l) (dR l))) rfl rfl rfl rfl rfl Tryz.func116 Zk rfl (fun w1 hw1=>(sn (ls:=bh l) w1 (hT.any (D':=fun _=>True) (e:=25) hw1 (fun q hq=>hq) (fun _ _=>trivial) (by simp)) (cA (dR l)) p3 (by omega) hC.1 (di _) (hL.later hw1.b) hC.2).mono fun e w2 ⟨v,h1,h2,h3⟩=>⟨_,h1,h2,h3⟩) fun v79 wa79 wb79 hm79 hl79 hR79=>?_
 refine Xg ?_
 refine cQ [] rfl rfl rfl rfl rfl Tryz.func111 Zk (fun hg=>by obtain ⟨hg0,_⟩:=hg; (try simp only [Qy]); refine ⟨_,rfl,?_⟩; exact fun w1 hw1=>sg (xs:=bo (bh l) (dR l)) (ys:=l) w1 (bY hR79 hw1 (by simp) hm79) (hl.keep (aV.later hw1.b))) fun b81 hb81=>?_
 refine Rn [30,1,2,10] fun b82 hb82=>Aw (fun hc67=>?_) fun hc67=>?_
 ·have hw60:bo (bh l) (dR l)=l:=by
   rw [hb82,hb81] at hc67
   simpa using hc67
  refine Rn [3,1,1,2,6,15,8] ?_
  refine s7 rfl rfl rfl (fun w' hm=>?_)
  rw [show iT l=([],60) from by unfold iT; rw [if_pos ⟨hpay,hle⟩,if_neg hdiff,if_pos ⟨hC.1,hC.2,hw60⟩]]
  exact ⟨_,rfl,hm.b,aT⟩
 have hw60:¬bo (bh l) (dR l)=l:=by
  rw [hb82,hb81] at hc67
  simpa using hc67
 refine Rn [45,27,17,3,1,1,2,6] ?_
 refine s7 rfl rfl rfl (fun w' hm=>?_)
 rw [show iT l=([],11) from by unfold iT; rw [if_pos ⟨hpay,hle⟩,if_neg hdiff,if_neg (fun q=>hw60 q.2.2)]]
 exact ⟨_,rfl,hm.b,aT⟩
theorem c_RdIB {v:Value} {l:List Seg} {D:Nat→Prop} (w:World) (hl:ab aZ D w v l) (hbig:gk l) (hL:LD w) (hC:¬(0≤cA (dR l)∧ai (cA (dR l))=dR l)) :
  Calls Tryz.prog 60 #[v] w fun e w'=>∃ q,e=.returned (.tuple #[q,Vi (iT l).2])∧Later w w'∧ab dE (fun b=>w.heap.size≤b) w' q (iT l).1:=by
 obtain ⟨A,cp,rfl,hlc,hmx,_⟩:=id hl
 refine enter Tryz.func60 rfl Tryz.ntmps60 rfl ?_
 refine Rn [3,1,1,9,1,2,5,3,1,2,14] ?_
 refine aO (σ:=Nat×ak) (fun x=>x.1≤min 1000 ((l.length - 3) / 4)∧cZ dE (fun _=>False) w x.2 ((List.range x.1).map (ga l))) (fun x=>[(0,Value.slice A l.length cp),(4,au x.2 x.1),(5,Vi ((4*x.1+2:Nat):Int))]) (fun x=>aA 25 x.2) (fun x=>[(w,fun _=>True)]) (fun x=>min 1000 ((l.length - 3) / 4) - x.1) ((0,none)) (⟨Nat.zero_le _,cZ.nil⟩) (aC Zu (fun _ h=>h)) ?_
 rintro ⟨k,R⟩ ⟨hk,hT⟩
 refine Rn [144] ?_
 dsimp only at hk hT
 have hln:((List.range k).map (ga l)).length=k:=by simp
 refine Rn [5,3,0] ?_
 refine Xv rfl (bg (c:=((4*k+6:Nat):Int)) rfl rfl (by omega) (by omega)) ?_
 refine Rn [0,31,24,0,21,61,67,30,2,12] fun b13 hb13 b17 hb17 b18 hb18=>Aw (fun hc18=>?_) fun hc18=>?_
 ·have hkc:k < min 1000 ((l.length - 3) / 4):=by omega
  refine Rn [16,5,14,18,0,0,0] ?_
  refine Xc rfl Tryz.func109 rfl (fun w1 hw1=>eG (4*k+2) 2 0 w1 (hl.keep (aV.later hw1.b))) ?_
  refine Xc rfl Tryz.func110 rfl (fun w1 hw1=>vB (kJ l (4*k+2) 2 0) w1 (eH hbig (4*k+2) 2 0) (hL.later hw1.b)) ?_
  refine Rn [0,0] ?_
  refine Xv rfl (bg (c:=((4*k+3:Nat):Int)) rfl rfl (by omega) (by omega)) (Xc rfl Tryz.func109 rfl (fun w1 hw1=>eG (4*k+3) 0 1 w1 (hl.keep (aV.later hw1.b))) ?_)
  refine Xc rfl Tryz.func108 rfl (fun w1 hw1=>e6 (kJ l (4*k+3) 0 1) w1 (Nat.le_trans (eH hbig (4*k+3) 0 1) (by decide)) (hL.later hw1.b)) ?_
  refine Rn [0,0] ?_
  refine Xv rfl (bg (c:=((4*k+4:Nat):Int)) rfl rfl (by omega) (by omega)) (Xc rfl Tryz.func109 rfl (fun w1 hw1=>eG (4*k+4) 0 1 w1 (hl.keep (aV.later hw1.b))) ?_)
  refine Xc rfl Tryz.func108 rfl (fun w1 hw1=>e6 (kJ l (4*k+4) 0 1) w1 (Nat.le_trans (eH hbig (4*k+4) 0 1) (by decide)) (hL.later hw1.b)) ?_
  refine Rn [0,0] ?_
  refine Xv rfl (bg (c:=((4*k+5:Nat):Int)) rfl rfl (by omega) (by omega)) (Xc rfl Tryz.func109 rfl (fun w1 hw1=>eG (4*k+5) 0 1 w1 (hl.keep (aV.later hw1.b))) ?_)
  refine Xc rfl Tryz.func108 rfl (fun w1 hw1=>e6 (kJ l (4*k+5) 0 1) w1 (Nat.le_trans (eH hbig (4*k+5) 0 1) (by decide)) (hL.later hw1.b)) ?_
  refine Xv rfl (aH (places:=[(0,1),(1,1),(2,2),(4,1),(5,1),(6,1),(7,1),(8,1)]) f4 gI Zk rfl rfl) ?_
  refine ac (cs:=(ga l k).cells) rfl rfl rfl qx cm gI rfl rfl rfl ?_
  intro p42
  obtain ⟨css,hcl,hrow,hrd⟩:=hT
  rw [hln] at hcl hrow
  refine be (e:=25) [(p42,Obj.cells (ga l k).cells.toArray 25)] (l2:=[]) R (len:=k) (xs:=css.flatten) rfl rfl rfl rfl (by rw [List.append_nil]; rfl) hrow qx ap25 rfl rfl (m:=1) (news:=(ga l k).cells) (fun i hi=>aa (vs:=(ga l k).cells) (.head _) (by rw [Nat.zero_add]; exact List.getElem?_eq_getElem hi)) rfl Zx (by omega) fun R' hR'=>?_
  refine Rn [1,13,27,17,18,0] ?_
  refine Xv rfl (bg (c:=((4*k+6:Nat):Int)) rfl rfl (by omega) (by omega)) ?_
  refine Rn [1,13] ?_
  rw [List.append_nil]
  exact aJ (x:=(k,R)) (μ:=fun q:Nat×ak=>min 1000 ((l.length - 3) / 4) - q.1) (k+1,R') ⟨by dsimp only; omega,by dsimp only; rw [kW]; exact nV hln hcl hrd hR' ⟨rfl,qR l k⟩⟩ (by simp only; omega) (by dsimp only; rw [show 4*(k+1)+2=4*k+6 by omega]; repeat (first | exact je.nil | refine je.cons rfl ?_)) (fun w1 h=>h.less (List.sublist_append_right _ _) (fun _ h=>h))
 obtain rfl:k=min 1000 ((l.length - 3) / 4):=by omega
 refine Rn [34,19,19,35,17,3,0] ?_
 refine Xd (R:=fun v wa wb=>∃ A1 c1,v=.slice A1 (bH (bh l)).length c1∧ab aZ (fun b=>wa.heap.size≤b) wb (.slice A1 (bH (bh l)).length c1) (bH (bh l))∧A1.isNone=decide ((bH (bh l)).length=0)) rfl Tryz.func114 rfl (fun w1 hw1=>(qS (ls:=bh l) w1 (hT.any (D':=fun _=>True) (e:=25) hw1 (fun q hq=>hq) (fun _ _=>trivial) (by simp)) (hL.later hw1.b)).mono fun e w2 ⟨v,h1,h2,h3,h4⟩=>sh h1 h2 h3 h4) fun v45 wa45 wb45 hm45 hl45 hR45=>?_
 obtain ⟨A1,c1,rfl,hr45,hn45⟩:=hR45
 refine Rn [1,2,5,3,0] ?_
 refine Xb rfl (kS jH rfl) fun b47 hb47=>?_
 refine Rn [0,21,61,21,61,74,25,2,10] fun b53 hb53 b54 hb54=>Aw (fun hc54=>?_) fun hc54=>?_
 ·have hno:¬(dB (bh l)∧(bH (bh l)).length=l.length):=fun ⟨q1,q2⟩=>by
   rw [hb54,hb53,hb47,hn45,q2] at hc54
   have q3:=fP (bh l)
   rw [if_pos q1,q2] at q3
   simp at hc54
   rw [hc54] at q3
   simp at q3
  refine Rn [3,1,1,2,6,8] ?_
  refine s7 rfl rfl rfl (fun w' hm=>?_)
  rw [show iT l=([],11) from by unfold iT; rw [if_neg hno]]
  exact ⟨_,rfl,hm.b,aT⟩
 have hyes:(bH (bh l)).length=l.length∧(bH (bh l)).length≠0:=by
  rw [hb54,hb53,hb47,hn45] at hc54
  simp only [Bool.or_eq_false_iff,decide_eq_false_iff_not,ne_eq,Decidable.not_not] at hc54
  exact ⟨by omega,hc54.1⟩
 obtain ⟨hle,hl0⟩:=hyes
 have hpay:dB (bh l):=by
  apply Classical.byContradiction; intro q; apply hl0; rw [fP,if_neg q]
 obtain ⟨p1,p2,p3⟩:=id hpay
 have hl5:l.length=4*(bh l).length+5:=by rw [← hle,fP,if_pos hpay]
 refine Rn [23,0,0,31] ?_
 refine Xv rfl (dH (c:=((l.length - 2:Nat):Int)) rfl rfl (by omega) (by omega)) (Xc rfl Tryz.func109 rfl (fun w1 hw1=>show Calls _ _ _ w1 (fun e w2=>e=.returned (.string (dR l))∧Later w1 w2) from eG (l.length - 2) 0 1 w1 (hl.keep (aV.later hw1.b))) ?_)
 refine Rn [1,2,5,3,0] ?_
 refine Xc rfl Tryz.func108 rfl (fun w1 hw1=>e6 (dR l) w1 (Nat.le_trans (eH hbig (l.length - 2) 0 1) (by decide)) (hL.later hw1.b)) ?_
 refine Rn [1,2,14,3,0,0] ?_
 refine Xh rfl Tryz.func111 rfl (fun w1 hw1=>sg (xs:=bH (bh l)) (ys:=l) w1 (bY hr45 hw1 (by simp) hm45) (hl.keep (aV.later hw1.b))) fun b65 hb65=>?_
 refine Rn [1,2,10] (Aw (fun hc62=>?_) fun hc62=>?_)
 ·have hsame:bH (bh l)=l:=by rw [hb65] at hc62; simpa using hc62
  refine Rn [3,0,1,1,2,6,15,8] ?_
  refine s7 rfl rfl rfl (fun w' hm=>?_)
  rw [show iT l=(bh l,0) from by unfold iT; rw [if_pos ⟨hpay,hle⟩,if_pos hsame]]
  exact ⟨_,rfl,hm.b,(hT.any (e:=25) hm (fun q hq=>hq) (fun q hq=>hm.newer (by simp) hq) (by simp))⟩
 have hdiff:¬bH (bh l)=l:=by rw [hb65] at hc62; simpa using hc62
 refine Rn [3,0,57,0,21] fun b69 hb69=>?_
 refine mc [] rfl rfl rfl rfl rfl Tryz.func115 Zk (fun hg=>by obtain ⟨hg0,_⟩:=hg; subst hg0; (try simp only [Qy]); refine ⟨_,rfl,?_⟩; exact fun w1 hw1=>de (cA (dR l)) w1 (di _) (hL.later hw1.b)) ?_
 refine Rn [21,92,30] fun b74 hb74 b75 hb75=>?_
 obtain rfl:b75=false:=by
    rw [hb75,hb74,hb69]
    rw [← Bool.not_eq_true]
    simpa using hC
 refine Rn [0,33,33,33,33,33] ?_
 refine Xv (v:=.bool false) rfl (jJ (b:=false) rfl rfl) ?_
 refine Rn [1,2,10] (Aw (fun hc67=>?_) fun hc67=>?_)
 ·cases hc67
 refine Rn [45,27,17,3,1,1,2,6] ?_
 refine s7 rfl rfl rfl (fun w' hm=>?_)
 rw [show iT l=([],11) from by unfold iT; rw [if_pos ⟨hpay,hle⟩,if_neg hdiff,if_neg (fun q=>hC ⟨q.1,q.2.1⟩)]]
 exact ⟨_,rfl,hm.b,aT⟩
theorem pZ {v:Value} {l:List Seg} {D:Nat→Prop} (w:World) (hl:ab aZ D w v l) (hbig:gk l) (hL:LD w):Calls Tryz.prog 60 #[v] w fun e w'=>∃ q,e=.returned (.tuple #[q,Vi (iT l).2])∧Later w w'∧ab dE (fun b=>w.heap.size≤b) w' q (iT l).1:=by
 by_cases hC:0≤cA (dR l)∧ai (cA (dR l))=dR l
 ·exact c_RdIA w hl hbig hL hC
 exact c_RdIB w hl hbig hL hC
open Go.RowKit Go.PK
open Go.RowKit Go.PK
open Go.RowKit Go.PK
theorem c_FNew (w:World) :
  Calls Tryz.prog 22 #[] w fun e w'=>∃ pF,e=.returned (Pt pF)∧Mem w' [(Bk pF [Value.map none,Vi 0] 125)] [(w,fun _=>True)]:=by
 refine enter Tryz.func22 rfl Tryz.ntmps22 rfl ?_
 refine Rn [3,1,9] ?_
 refine Xv (v:=Value.agg #[.map none,Vi 0]) rfl (aH (cs:=[Value.map none,Vi 0]) (places:=[(0,1),(1,1)]) u125 zr125 Zk rfl rfl) ?_
 refine Rn [36,1,2,6] fun p2=>?_
 exact aw rfl rfl (fun w' hm=>⟨_,rfl,hm⟩)
theorem Ar {pF:Nat} (t:Int) (w:World) :
  Calls Tryz.prog 17 #[Pt pF,Vi t] w fun e w'=>∃ x:Nat×Nat,e=.returned (Pt x.1)∧Mem w' [(Bk x.1 (cJ pF (min (max t 0) 1000000) x.2) 38),(x.2,Obj.map #[] 0)] [(w,fun _=>True)]:=by
 refine enter Tryz.func17 rfl Tryz.ntmps17 rfl ?_
 refine Rn [3,1,9,0,0] ?_
 refine Xv (v:=Vi (max t 0)) rfl (kG rfl rfl) (Xv (v:=Vi (min (max t 0) 1000000)) rfl (tG rfl rfl) ?_)
 refine mj rfl rfl rfl ?_
 intro p9
 refine Xv (v:=Value.agg (cJ pF (min (max t 0) 1000000) p9).toArray) rfl (aH (cs:=cJ pF (min (max t 0) 1000000) p9) (places:=[(0,1),(1,1),(2,1)]) u38 zr38 Zk rfl rfl) ?_
 refine Rn [36,1,2,6] fun p11=>?_
 exact aw rfl rfl (fun w' hm=>⟨(_,_),rfl,hm⟩)
theorem c_near {pO:Nat} {tol:Int} (p q:Int) (w:World) (h1:w.cell? ⟨pO,1,none⟩=some (Vi tol)) (ht:0≤tol∧tol≤1000000) (hp:0≤p∧p≤999999999) (hq:0≤q∧q≤999999999) :
  Calls Tryz.prog 56 #[Pt pO,Vi p,Vi q] w fun e w'=>e=.returned (.bool (decide (lQ tol p q)))∧Later w w':=by
 have hmul:=mul9 (a:=1000000) (b:=999999999) ht hq
 refine enter Tryz.func56 rfl Tryz.ntmps56 rfl ?_
 refine Rn [3,1,9,0,0,54,0,0,54] ?_
 refine Xv rfl (kG rfl rfl) (Xv rfl (cY rfl rfl rfl Zo) ?_)
 refine Rn [0,11,4] ?_
 refine Xl rfl u3 rfl (an (.head _) trivial h1) (Xm ?_)
 refine Xv rfl (cY rfl rfl rfl Zo) ?_
 refine Rn [85,1,2,6] fun b21 hb21=>?_
 refine aw rfl rfl (fun w' hm=>⟨?_,hm.b⟩)
 rw [hb21]; rfl
theorem AE (x:PK.Ord) (w:World) (hx:x.okA) (hL:LD w) :
  Calls Tryz.prog 51 #[.agg x.cells.toArray] w fun e w'=>e=.returned (.bool (bV x))∧Later w w':=by
 refine enter Tryz.func51 rfl Tryz.ntmps51 rfl ?_
 refine Rn [3,36,1,9,39] fun p1=>?_
 refine Xd (R:=fun v wa wb=>∃ A1 c1,v=.slice A1 (aU x).length c1) rfl Tryz.func104 rfl (fun w1 hw1=>(xe x w1 hx.1 (hL.later hw1.b)).mono fun e w2 ⟨v,h1,h2,h3,h4⟩=>by obtain ⟨A1,c1,rfl,_⟩:=id h3; exact ⟨_,h1,h2,A1,c1,rfl⟩) fun v4 wa4 wb4 hm4 hl4 hR4=>?_
 obtain ⟨A4,c4,rfl⟩:=hR4
 refine Rn [31,60,1,2,6] fun b6 hb6=>?_
 refine aw rfl rfl (fun w' hm=>⟨?_,hm.b⟩)
 rw [hb6]; unfold aU; split <;> rename_i h <;> simp [h,eF]
open Go.RowKit Go.PK
open Go.RowKit Go.PK
theorem c_read1 (s:ByteArray) (w:World) (hs:s.size≤200000000) (h0:(aK s).2.2=0) (hbig:gk (aK s).1) (hL:LD w) :
  Calls Tryz.prog 54 #[.string s,.func (.func 55) #[] #[]] w fun e w'=>e=.returned (.tuple #[.agg (pI (aK s).1).1.cells.toArray,Vi (pI (aK s).1).2])∧Later w w':=by
 refine enter Tryz.func54 rfl Tryz.ntmps54 rfl ?_
 refine Rn [3,28,1,9,0] fun p4=>?_
 refine Xd (R:=fun v wa wb=>∃ A c,v=.tuple #[.slice A (aK s).1.length c,Vi (aK s).2.1,Vi (aK s).2.2]∧ab aZ (fun b=>wa.heap.size≤b) wb (.slice A (aK s).1.length c) (aK s).1) rfl Tryz.func107 rfl (fun w1 hw1=>(nr s w1 hs).mono fun e w2 ⟨v,h1,h2,h3⟩=>by obtain ⟨A,c,rfl,_⟩:=id h3; exact ⟨_,h1,h2,A,c,rfl,h3⟩) fun v12 wa12 wb12 hm12 hl12 hR12=>?_
 obtain ⟨A12,c12,rfl,hp12⟩:=hR12
 refine Rn [0,20,20,20,1,1,1,2,5,3,0,37,2,10] fun b17 hb17=>Aw (fun hc17=>?_) fun hc17=>?_
 ·exfalso
  rw [hb17,h0] at hc17
  revert hc17; simp
 simp only [hb17,Qz,ne_eq] at hc17
 refine Rn [23,0,0] ?_
 refine nL (cap:=#[]) rfl rfl rfl rfl Tryz.func55 Zk rfl (fun w1 hw1=>by simpa using uh (l:=(aK s).1) w1 (bY hp12 hw1 Zh hm12) hbig (hL.later hw1.b)) ?_
 refine Rn [20,20,32,1,2,6] ?_
 refine yo (cs:=(pI (aK s).1).1.cells.toArray) rfl rfl rfl (.head _) f4 rfl cm (fun w1 hm=>⟨rfl,hm.b⟩)
theorem c_read2 (s:ByteArray) (w:World) (hs:s.size≤200000000) (h0:(aK s).2.2=0) (hbig:gk (aK s).1) (hL:LD w) :
  Calls Tryz.prog 59 #[.string s,.func (.func 60) #[] #[]] w fun e w'=>∃ q,e=.returned (.tuple #[q,Vi (iT (aK s).1).2])∧Later w w'∧ab dE (fun b=>w.heap.size≤b) w' q (iT (aK s).1).1:=by
 refine enter Tryz.func59 rfl Tryz.ntmps59 rfl ?_
 refine Rn [3,1,1,9,0] ?_
 refine Xd (R:=fun v wa wb=>∃ A c,v=.tuple #[.slice A (aK s).1.length c,Vi (aK s).2.1,Vi (aK s).2.2]∧ab aZ (fun b=>wa.heap.size≤b) wb (.slice A (aK s).1.length c) (aK s).1) rfl Tryz.func107 rfl (fun w1 hw1=>(nr s w1 hs).mono fun e w2 ⟨v,h1,h2,h3⟩=>by obtain ⟨A,c,rfl,_⟩:=id h3; exact ⟨_,h1,h2,A,c,rfl,h3⟩) fun v12 wa12 wb12 hm12 hl12 hR12=>?_
 obtain ⟨A12,c12,rfl,hp12⟩:=hR12
 refine Rn [0,20,20,20,1,1,1,2,5,3,0,37,2,10] fun b17 hb17=>Aw (fun hc17=>?_) fun hc17=>?_
 ·exfalso
  rw [hb17,h0] at hc17
  revert hc17; simp
 simp only [hb17,Qz,ne_eq] at hc17
 refine Rn [23,0,0] ?_
 refine x_cln (R:=fun v wa wb=>∃ q,v=.tuple #[q,Vi (iT (aK s).1).2]∧ab dE (fun b=>wa.heap.size≤b) wb q (iT (aK s).1).1) rfl rfl rfl rfl Tryz.func60 Zk rfl (fun w1 hw1=>(pZ (l:=(aK s).1) w1 (bY hp12 hw1 Zh hm12) hbig (hL.later hw1.b)).mono fun e w2 ⟨q,h1,h2,h3⟩=>⟨_,h1,h2,q,rfl,h3⟩) ?_
 rintro _ wa22 wb22 hm22 _ ⟨q22,rfl,hr22⟩
 refine Rn [20,20,1,1,2,6] ?_
 exact s7 rfl rfl rfl (fun w' hm=>⟨_,rfl,hm.b,hr22.keep (aV.made0 hm hm22 (by simp) (by simp))⟩)
theorem xn (w:World) (a b a' b':Int):(Op.equalIn 10000 23 (.agg #[Vi a,Vi b]) (.agg #[Vi a',Vi b'])).run Tryz.prog w=.ok (decide (a=a'∧b=b')) w:=by
 have hf:(Tryz.prog.fieldsOf 23).toList=[⟨ "Source",3,0,false,"","",0⟩,⟨ "Number",3,1,false,"","",8⟩]:=by kernel_rfl
 rw [run_equalIn_struct w 9999 23 _ _ Zk Zk,hf]
 simp only [Op.eqFields,part]
 simp [gn u3,PK.run_sizeOf cT,jD,run_equalIn_int w 9998 3 .i64 .i64 _ _ u3]
 by_cases h1:a=a' <;> by_cases h2:b=b' <;> simp [h1,h2]
open Go.RowKit Go.PK
open Go.RowKit Go.PK
theorem vI {f:FSt} {n:Int} (h:(bJ f n).1≠0):(bJ f n).2=f:=by
 unfold bJ at h ⊢
 by_cases h1:n < 0
 ·rw [if_pos h1]
 rw [if_neg h1] at h ⊢
 by_cases h2:n > f.free
 ·rw [if_pos h2]
 rw [if_neg h2] at h; exact absurd rfl h
theorem sr {f:FSt} {n:Int} (h:(aS f n).1≠0):(aS f n).2=f:=by
 unfold aS at h ⊢
 by_cases h1:n < 0
 ·rw [if_pos h1]
 rw [if_neg h1] at h ⊢
 by_cases h2:n > f.en
 ·rw [if_pos h2]
 rw [if_neg h2] at h; exact absurd rfl h
end Go.Proofs.YtifekogdhjabaaaGreatDoor

/-
  DERIVED: THE SHELF's CONTRACTS AT THIS DUMP,IN PLAIN WORDS (tools/lay-plain.mjs out of 'TryzClone.lean',which tools/lay-shelf.mjs wrote): THE SAME DECLARATIONS UNDER THE SAME NAMES: 'import','namespace','open','def','theorem' AND NOTHING ELSE: no command of the shelf's: FOR A HAND-IN. Each laying: the table of numbers ('.._ren') and one theorem,a field a fact of the dump's own or the kernel's comparison; each contract: ONE APPLICATION.
-/
namespace Go.Proofs
open Go.Shelf
def Tryz.lclone_ren:Go.Shelf.Ren:=⟨fun | 5=>61 | 7=>117 | n=>n,fun | 23=>36 | 25=>3 | 3=>100 | 4=>4 | 20=>20 | n=>n,fun | n=>n⟩
theorem Tryz.lclone:Go.Proofs.SlLaysW.n5 Tryz.prog Tryz.lclone_ren:={
  mixed:=by kernel_rfl
  f5:=⟨Tryz.f61.name,by decide,Tryz.func61.trans (congrArg some (by kernel_rfl))⟩
  f7:=Tryz.func117.trans (congrArg some (by kernel_rfl))
  t4:=Tryz.underlying4
  a4:=Tryz.isAgg4
  z4:=Tryz.sizeOf4
  v4:=Tryz.zeroValue4
  t20:=Tryz.underlying20
  a20:=Tryz.isAgg20
  z20:=Tryz.sizeOf20
  v20:=Tryz.zeroValue20
  t23:=Tryz.underlying36
  a23:=Tryz.isAgg36
  z23:=Tryz.sizeOf36
  v23:=Tryz.zeroValue36 }
theorem Tryz.maps_Clone_at (b:Nat) (es:Array MapEntry) (clock:Nat) (w:World) (hb:w.heap[b]?=some (.map es clock)) :
    Calls Tryz.prog 61 #[.map (some b)] w fun e w'=>e=.returned (.map (some w.heap.size))∧w'=w.alloc (.map es clock):=AnyW.maps_Clone Tryz.lclone b es clock w hb
end Go.Proofs

namespace Go.Proofs.YtifekogdhjabaaaGreatDoor
open Go.RowKit Go.PK
theorem oP {c p q:Int} (h1:1≤c∧c≤9999) (h2:0≤p∧p≤999999999) (h3:0≤q∧q≤999999999):(0≤c*p∧c*p≤9998999990001)∧(0≤c*q∧c*q≤9998999990001)∧c*(p - q)=c*p - c*q:=by
 have a1:c*p≤9999*999999999:=Int.mul_le_mul h1.2 h2.2 h2.1 (by decide)
 have a2:c*q≤9999*999999999:=Int.mul_le_mul h1.2 h3.2 h3.1 (by decide)
 have a3:=Int.mul_nonneg (show 0≤c by omega) h2.1
 have a4:=Int.mul_nonneg (show 0≤c by omega) h3.1
 exact ⟨⟨a3,by omega⟩,⟨a4,by omega⟩,Int.mul_sub c p q⟩
open Go.RowKit Go.PK
open Go.RowKit Go.PK
def yO (n r:Int):PK.Ord:=⟨7,2,1,5,n,r,0,0,0⟩
def yB (n r:Int):PK.Ord:=⟨7,0,1,5,n,r,0,0,0⟩
def oR (n r:Int):ByteArray:=⟨(fX (aU (yO n r))).toArray⟩
def oU (n r:Int):ByteArray:=⟨(fX (bH [yB n r])).toArray⟩
theorem yO_w {n r:Int} (hn:1≤n∧n≤9999) (hr:0≤r∧r≤999999999):bV (yO n r)=true:=(bB _).2 ⟨by show (1:Int)≤7∧(7:Int)≤999999999; decide,by show (1:Int)≤2∧(2:Int)≤999999999; decide,by show (0:Int)≤1∧(1:Int)≤999999999; decide,by show (0:Int)≤5∧(5:Int)≤999999999; decide,hr,hn⟩
theorem yB_w {n r:Int} (hn:1≤n∧n≤9999) (hr:0≤r∧r≤999999999):ej (pf (yB n r)):=⟨by show (1:Int)≤7∧(7:Int)≤999999999; decide,by show (1:Int)≤1∧(1:Int)≤999999999; decide,by show (0:Int)≤1∧(1:Int)≤999999999; decide,by show (0:Int)≤5∧(5:Int)≤999999999; decide,hr,hn⟩
theorem yO_A {n r:Int} (hn:1≤n∧n≤9999) (hr:0≤r∧r≤999999999):(yO n r).okA:=by
 refine ⟨⟨?_,?_,?_,?_,?_,?_⟩,?_,?_,?_⟩ <;> (unfold yO aj; dsimp only; omega)
theorem yB_A {n r:Int} (hn:1≤n∧n≤9999) (hr:0≤r∧r≤999999999):(yB n r).okA:=by
 refine ⟨⟨?_,?_,?_,?_,?_,?_⟩,?_,?_,?_⟩ <;> (unfold yB aj; dsimp only; omega)
theorem fD {n r:Int} (hn:1≤n∧n≤9999) (hr:0≤r∧r≤999999999):u6 (aU (yO n r))=(oR n r,0)∧(oR n r).size≤200000000∧(aK (oR n r)).2.2=0∧gk (aK (oR n r)).1∧pI (aK (oR n r)).1=(yO n r,0):=by
 obtain ⟨h1,h2,h3⟩:=iU (l:=aU (yO n r)) (Nat.le_trans (by unfold aU; split <;> simp [eF]) (by decide:7≤60)) (oQ (yO_w hn hr))
 refine ⟨h1,h2,?_,?_,?_⟩
 ·show (aK ⟨_⟩).2.2=0; rw [h3]
 ·show gk (aK ⟨_⟩).1; rw [h3]; exact yM _
 show pI (aK ⟨_⟩).1=_; rw [h3]; show pI (aU (yO n r))=_; rw [yL,if_pos (yO_w hn hr)]; rfl
theorem fE {n r:Int} (hn:1≤n∧n≤9999) (hr:0≤r∧r≤999999999):u6 (bH [yB n r])=(oU n r,0)∧(oU n r).size≤200000000∧(aK (oU n r)).2.2=0∧gk (aK (oU n r)).1∧iT (aK (oU n r)).1=([yB n r],0):=by
 obtain ⟨hp,hf⟩:=yX (yB_w hn hr)
 obtain ⟨h1,h2,h3⟩:=iU (l:=bH [yB n r]) (by unfold bH; rw [if_pos hp,cP]; show 4*1+5≤60; decide) hf
 refine ⟨h1,h2,?_,?_,?_⟩
 ·show (aK ⟨_⟩).2.2=0; rw [h3]
 ·show gk (aK ⟨_⟩).1; rw [h3]; exact ul _
 show iT (aK ⟨_⟩).1=_; rw [h3]; show iT (bH [yB n r])=_; rw [xj,if_pos hp]; rfl
theorem c_ans (n r:Int) (w:World) (hn:1≤n∧n≤9999) (hr:0≤r∧r≤999999999) :
  Calls Tryz.prog 49 #[Vi n,Vi r] w fun e w'=>e=.returned (.string (oR n r))∧Later w w':=by
 refine enter Tryz.func49 rfl Tryz.ntmps49 rfl ?_
 refine Rn [3,1,9] ?_
 refine Xv (v:=Value.agg #[Vi 1,Vi 5]) rfl (aH (cs:=[Vi 1,Vi 5]) (places:=[(0,1),(1,1)]) l9 pV Zk rfl rfl) ?_
 refine Rn [0,0] ?_
 refine Xv (v:=Value.agg (yO n r).cells.toArray) rfl (aH (cs:=(yO n r).cells) (places:=[(0,1),(1,1),(2,2),(4,1),(5,1),(6,1),(7,1),(8,1)]) f4 gI Zk rfl rfl) (Xd (R:=fun v wa wb=>ab aZ (fun b=>wa.heap.size≤b) wb v (aU (yO n r))) rfl Tryz.func84 rfl (fun w1 hw1=>(ow (yO n r) w1 (yO_A hn hr).1).mono fun e w2 ⟨v,h1,h2,h3,_⟩=>⟨_,h1,h2,h3⟩) fun v12 wa12 wb12 hm12 hl12 hR12=>?_)
 refine Xc (v:=Value.tuple #[.string (oR n r),Vi 0]) rfl Tryz.func25 rfl (fun w1 hw1=>by
  have h:=jV (l:=aU (yO n r)) w1 (bY hR12 hw1 Zh hm12) (by have:=(fD hn hr).2.1; unfold oR at this; have h2:(fX (aU (yO n r))).toArray.size≤200000000:=this; rw [List.size_toArray] at h2; omega)
  rw [(fD hn hr).1] at h; exact h) ?_
 refine Rn [0,20,20,1,1,9,0,1,2,6] ?_
 refine aw rfl rfl (fun w' hm=>⟨?_,hm.b⟩)
 rfl
theorem c_bil (n r:Int) (w:World) (hn:1≤n∧n≤9999) (hr:0≤r∧r≤999999999) :
  Calls Tryz.prog 50 #[Vi n,Vi r] w fun e w'=>e=.returned (.string (oU n r))∧Later w w':=by
 refine enter Tryz.func50 rfl Tryz.ntmps50 rfl ?_
 refine Rn [3,1,9] ?_
 refine Xv (v:=Value.agg #[Vi 1,Vi 5]) rfl (aH (cs:=[Vi 1,Vi 5]) (places:=[(0,1),(1,1)]) l9 pV Zk rfl rfl) ?_
 refine Rn [0,0] ?_
 refine Xv (v:=Value.agg (yB n r).cells.toArray) rfl (aH (cs:=(yB n r).cells) (places:=[(0,1),(1,1),(2,2),(4,1),(5,1),(6,1),(7,1),(8,1)]) f4 gI Zk rfl rfl) ?_
 refine ac (cs:=(yB n r).cells) rfl rfl rfl qx cm gI rfl rfl rfl ?_
 intro p12
 have hT1:cZ dE (fun _=>False) w (some (p12,(yB n r).cells,1)) [yB n r]:=⟨[(yB n r).cells],rfl,cE (b:=p12) (cs:=(yB n r).cells) (n:=1) rfl (by decide),fun j h1 h2=>by match j,h1 with | 0,_=>exact ⟨rfl,yB_A hn hr⟩⟩
 refine Xd (R:=fun v wa wb=>ab aZ (fun b=>wa.heap.size≤b) wb v (bH [yB n r])) rfl Tryz.func26 rfl (fun w1 hw1=>(oL (ls:=[yB n r]) w1 (hT1.any (D':=fun _=>True) (e:=25) (v:=1) hw1 (fun p hp=>hp) (fun _ _=>trivial) rfl)).mono fun e w2 ⟨v,h1,h2,h3⟩=>⟨_,h1,h2,h3⟩) fun v13 wa13 wb13 hm13 hl13 hR13=>?_
 refine Xc (v:=Value.tuple #[.string (oU n r),Vi 0]) rfl Tryz.func25 rfl (fun w1 hw1=>by
  have h:=jV (l:=bH [yB n r]) w1 (bY hR13 hw1 Zh hm13) (by have:=(fE hn hr).2.1; unfold oU at this; have h2:(fX (bH [yB n r])).toArray.size≤200000000:=this; rw [List.size_toArray] at h2; omega)
  rw [(fE hn hr).1] at h; exact h) ?_
 refine Rn [0,20,20,1,1,9,0,1,2,6] ?_
 refine aw rfl rfl (fun w' hm=>⟨?_,hm.b⟩)
 rfl
theorem ix (n m:Int) (w:World) (hn:aj n) (hmm:0 < m∧m≤4000000000) :
  Calls Tryz.prog 43 #[Vi n,Vi m] w fun e w'=>e=.returned (Vi (n%m))∧Later w w':=by
 refine enter Tryz.func43 rfl Tryz.ntmps43 rfl ?_
 refine Rn [3,1,9,0,0] ?_
 refine Xv rfl (jL rfl rfl (by omega)) (Xm ?_)
 refine Xv rfl (bg (c:=n.tmod m+m) rfl rfl rfl (by have:=wA n m hmm.1; omega)) (Xm ?_)
 refine Xv rfl (jL rfl rfl (by omega)) ?_
 refine Rn [1,2,6] ?_
 refine aw rfl rfl (fun w' hm=>⟨?_,hm.b⟩)
 rw [tmodN hmm.1]
open Go.RowKit Go.PK
open Go.RowKit Go.PK
theorem c_groups (n:Nat) (w:World) :
  Calls Tryz.prog 167 #[.int .u64 (n:Nat)] w fun e w'=>∃ Bs,e=.returned (.func (.func 187) #[] #[Pt Bs])∧Later w w'∧Mem w' [(Bk Bs [Value.int .u64 ((n:Nat):Int)] 151)] [(w,fun _=>True)]:=by
 refine enter Tryz.func167 rfl Tryz.ntmps167 rfl ?_
 refine Rn [3,36,1,9] fun p1=>?_
 refine Xv rfl (vc rfl) ?_
 refine Rn [1,2,6] ?_
 exact aw rfl rfl (fun w' hm=>⟨p1,rfl,hm.b,hm⟩)
theorem retn {P:Program} {n:Nat} {l:List (Nat×Value)} {own:List (Nat×Obj)} {ro:List av} {R:Ending→World→Prop} {fn:Func} (hr:fn.results=#[]) (h:∀ w',Mem w' own ro→R (.returned (.tuple #[])) w'):S (bodyPost P fn R .ret) n l own ro:=tw hr h
theorem zf {w:World} {ro:List av} {L Bs:Nat} (X:ak→Nat→List (Nat×Obj)) (n:Nat) (hn:n < 18446744073709551616) (hm:Mem w ((Bk Bs [Value.int .u64 ((n:Nat):Int)] 151)::X none 0) ro) (hY:∀ (bs:List UInt8) (v:Nat) (r:ak) (w1:World),ag 1 r bs.length (ea bs)→bs.length≤9→v < 18446744073709551616→Mem w1 ((Bk Bs [Value.int .u64 ((v / 128:Nat):Int)] 151)::X r bs.length) ro→YieldAt Fence.wide (2 - 1) Tryz.prog L [Value.int .u8 (((UInt8.ofNat (v%128)).toNat:Nat):Int),Value.bool (decide (((v / 128:Nat):Int) > 0))].toArray w1 fun e w2=>e=.returned (.bool true)∧∃ r',ag 1 r' (bs++[(if v / 128 > 0 then UInt8.ofNat (v%128+128) else UInt8.ofNat (v%128))]).length (ea (bs++[(if v / 128 > 0 then UInt8.ofNat (v%128+128) else UInt8.ofNat (v%128))]))∧Mem w2 ((Bk Bs [Value.int .u64 ((v / 128:Nat):Int)] 151)::X r' (bs++[(if v / 128 > 0 then UInt8.ofNat (v%128+128) else UInt8.ofNat (v%128))]).length) ro) :
  Calls Tryz.prog 187 #[.func (.yield L) #[] #[],Pt Bs] w fun e w'=>(∃ v,e=.returned v)∧∃ r' v',ag 1 r' (bC n).length (ea (bC n))∧Mem w' ((Bk Bs [Value.int .u64 ((v':Nat):Int)] 151)::X r' (bC n).length) ro:=by
 refine ay hm Tryz.func187 rfl Tryz.ntmps187 rfl ?_
 refine nn ?_
 refine aO (σ:=List UInt8×Nat×ak) (fun x=>x.1++bC x.2.1=bC n∧ag 1 x.2.2 x.1.length (ea x.1)∧x.2.1 < 18446744073709551616) (fun x=>[(0,Value.func (.yield L) #[] #[]),(1,Pt Bs)]) (fun x=>(Bk Bs [Value.int .u64 ((x.2.1:Nat):Int)] 151)::X x.2.2 x.1.length) (fun x=>ro) (fun x=>x.2.1) (([],n,none)) (⟨rfl,bG,hn⟩) (aC Zu (fun _ h=>h)) ?_
 rintro ⟨bs,v,r⟩ ⟨hbs,hr,hv⟩
 refine Rn [144] ?_
 dsimp only at hbs hr hv
 have hln:bs.length≤9:=by have h1:=congrArg List.length hbs; rw [List.length_append] at h1; have h2:=dL hn; have h3:=lT v; omega
 refine Rn [14,3,7] ?_
 refine Xv (v:=Value.int .u64 ((v%128:Nat):Int)) rfl (mw (b:=128) rfl rfl (by decide)) (Xv rfl (jZ jo u5 rfl (by omega)) ?_)
 refine Rn [1,9,7] ?_
 refine Xv (v:=Value.int .u64 ((v / 128:Nat):Int)) rfl (v_shr rfl rfl (by decide) (by show (v:Int) / 128=_; omega)) ?_
 refine aG (cs:=[Value.int .u64 ((v:Nat):Int)]) (off:=0) (e:=151) (l2:=X r bs.length) [] rfl rfl rfl rfl sz151 rfl (by show 1≤1; decide) ?_
 refine Rn [2,5] ?_
 refine Af 4 2 Zk rfl ?_
 refine Rn [0,0] ?_
 refine Xl rfl jo rfl (aa (vs:=[Value.int .u64 ((v / 128:Nat):Int)]) (.head _) rfl) ?_
 refine Rn [60,13] fun b12 hb12=>?_
 subst hb12
 refine s_yield (fun r':ak=>ag 1 r' (bs++[(if v / 128 > 0 then UInt8.ofNat (v%128+128) else UInt8.ofNat (v%128))]).length (ea (bs++[(if v / 128 > 0 then UInt8.ofNat (v%128+128) else UInt8.ofNat (v%128))]))) (fun r'=>(Bk Bs [Value.int .u64 ((v / 128:Nat):Int)] 151)::X r' (bs++[(if v / 128 > 0 then UInt8.ofNat (v%128+128) else UInt8.ofNat (v%128))]).length) rfl rfl rfl rfl rfl (fun w1 hw1=>(hY bs v r w1 hr hln hv hw1).mono fun e w2 h=>h) fun r' hr'=>?_
 refine s_rest Zk rfl ?_
 refine Xv (v:=Value.bool false) rfl (tt (b:=true) rfl) (Xm ?_)
 refine cz rfl rfl rfl rfl rfl (aW jo rfl rfl (aa (vs:=[Value.int .u64 ((v / 128:Nat):Int)]) (.head _) rfl)) ?_
 refine Rn [70] fun b17 hb17=>?_
 refine Xb rfl (v_or (g:=false) rfl rfl) fun b18 hb18=>?_
 refine Rn [2,10] (Aw (fun hc18=>?_) fun hc18=>?_)
 ·have hv0:v / 128=0:=by rw [hb18,hb17] at hc18; simp at hc18; omega
  refine Rn [6,15,8,15] ?_
  have hv1:v < 128:=by omega
  rw [dk hv1] at hbs
  have e9:(if v / 128 > 0 then UInt8.ofNat (v%128+128) else UInt8.ofNat (v%128))=UInt8.ofNat v:=by rw [if_neg (by omega),Nat.mod_eq_of_lt hv1]
  rw [e9,hbs] at hr'
  refine retn rfl (fun w' hm=>⟨⟨_,rfl⟩,r',v / 128,hr',?_⟩)
  rw [e9,hbs] at hm
  exact hm
 have hv0:¬v / 128=0:=by rw [hb18,hb17] at hc18; simp at hc18; omega
 refine Rn [45,27] ?_
 have hv1:¬v < 128:=by omega
 rw [ff hv1] at hbs
 have e9:(if v / 128 > 0 then UInt8.ofNat (v%128+128) else UInt8.ofNat (v%128))=UInt8.ofNat (v%128+128):=if_pos (by omega)
 exact aJ (x:=(bs,v,r)) (μ:=fun q:List UInt8×Nat×ak=>q.2.1) (bs++[UInt8.ofNat (v%128+128)],v / 128,r') ⟨by dsimp only; rw [← hbs,List.append_assoc]; rfl,by rw [← e9]; exact hr',by dsimp only; omega⟩ (by simp only; omega) Zu (fun _ h=>by rw [e9] at h; exact h)
theorem c_Num (n:Nat) (w:World) (hn:n < 18446744073709551616) :
  Calls Tryz.prog 120 #[.int .u64 (n:Nat)] w fun e w'=>e=.returned (.string ⟨(bC n).toArray⟩)∧Later w w':=by
 have hT:=dL hn
 refine enterM (vs:=[.int .u64 (n:Nat)]) 2 Tryz.func120 rfl Tryz.ntmps120 rfl ?_
 refine Rn [3,1,9,28,2,5,3,0] fun p3=>?_
 refine fq (τ:=Nat) (fun Bs=>.func (.func 187) #[] #[Pt Bs]) (fun _=>True) (fun Bs=>(Bk Bs [Value.int .u64 ((n:Nat):Int)] 151)::[(Bk p3 [au none 0] 49)]) rfl rfl rfl Tryz.func167 Zk rfl (fun w1 hw1=>(c_groups n w1).mono fun e w2 ⟨Bs,h1,h2,h3⟩=>⟨Bs,h1,h2,trivial,(hw1.join2 h3).to (by simp; rfl)⟩) fun Bs _=>?_
 refine Rn [2,14] ?_
 refine w_range (fun x:ak×Nat=>ag 1 x.1 (bC n).length (ea (bC n))) (fun x=>(Bk Bs [Value.int .u64 ((x.2:Nat):Int)] 151)::(Bk p3 [au x.1 (bC n).length] 49)::aA 5 x.1) rfl (enters_of Tryz.func187 Zk rfl) ?_ ?_
 ·intro L D fn tmps w1 hfh hm1
  refine (zf (Bs:=Bs) (L:=L) (fun r k=>(L,.loop (j3 .ready fn tmps #[8,9] _ _ D))::(D,.deferred (some []))::(Bk p3 [au r k] 49)::aA 5 r) n hn (hm1.perm (((List.Perm.swap _ _ _).cons _).trans (List.Perm.swap _ _ _))) ?_).mono ?_
  ·intro bs v r w2 hr hln hv hm2
   refine y0 (m:=1) (hm2.perm (List.Perm.swap _ _ _)) hfh rfl rfl ?_
   refine vK ?_
   refine kn (fG _) Zk ?_
   refine Rn [1,13] ?_
   refine nw ?_
   refine kn (fG _) Zk ?_
   refine Rn [1,13] ?_
   refine t_k ?_
   refine AI rfl ?_
   refine Ae ?_
   refine vK ?_
   refine vK ?_
   refine kn (fG _) Zk ?_
   refine Rn [0,13] ?_
   refine nw ?_
   refine AH rfl (fun hc=>?_) (fun hc=>?_)
   ·have hv0:=of_decide_eq_true hc
    refine kn (fG _) Zk ?_
    refine Xm ?_
    refine Xv (v:=Value.int .u8 (((UInt8.ofNat (v%128+128)).toNat:Nat):Int)) rfl (by rw [← or128 (Nat.mod_lt v (by decide))]; exact v_orK rfl rfl) ?_
    refine Rn [1,13] ?_
    refine nw ?_
    refine kn (fG _) Zk ?_
    refine Rn [7,0] ?_
    refine ac (cs:=ea [UInt8.ofNat (v%128+128)]) rfl rfl rfl jU lq vk rfl rfl rfl ?_
    intro p15
    refine be (e:=5) [(p15,_),(L,_),(Bs,_),(D,_),(p3,_)] (l2:=[]) r (len:=bs.length) (xs:=ea bs) rfl rfl rfl rfl (by simp only [List.append_nil]; rfl) hr jU ap5 rfl rfl (m:=1) (news:=ea [UInt8.ofNat (v%128+128)]) (fun i hi=>aa (vs:=ea [UInt8.ofNat (v%128+128)]) (.head _) (by rw [Nat.zero_add]; exact List.getElem?_eq_getElem hi)) rfl Zx (by omega) fun r' hr'=>?_
    rw [List.append_nil]
    refine aG (cs:=[au r bs.length]) (off:=0) (e:=49) (l2:=aA 5 r') [(p15,_),(L,_),(Bs,_),(D,_)] rfl rfl rfl rfl yy rfl (by show 1≤1; decide) ?_
    refine x_mem (fun _ h=>h.less Ls (fun _ h=>h)) ?_
    refine Rn [13,27] ?_
    refine xt (fun w' hm=>⟨rfl,r',?_,?_⟩)
    ·rw [(if_pos (show v / 128 > 0 by omega):(if v / 128 > 0 then UInt8.ofNat (v%128+128) else UInt8.ofNat (v%128))=_),jj,List.length_append]; exact hr'
    rw [(if_pos (show v / 128 > 0 by omega):(if v / 128 > 0 then UInt8.ofNat (v%128+128) else UInt8.ofNat (v%128))=_),List.length_append]; exact hm.perm (List.Perm.swap _ _ _)
   have hv0:=of_decide_eq_false hc
   refine AG ?_
   refine nw ?_
   refine kn (fG _) Zk ?_
   refine Rn [7,0] ?_
   refine ac (cs:=ea [UInt8.ofNat (v%128)]) rfl rfl rfl jU lq vk rfl rfl rfl ?_
   intro p15
   refine be (e:=5) [(p15,_),(L,_),(Bs,_),(D,_),(p3,_)] (l2:=[]) r (len:=bs.length) (xs:=ea bs) rfl rfl rfl rfl (by simp only [List.append_nil]; rfl) hr jU ap5 rfl rfl (m:=1) (news:=ea [UInt8.ofNat (v%128)]) (fun i hi=>aa (vs:=ea [UInt8.ofNat (v%128)]) (.head _) (by rw [Nat.zero_add]; exact List.getElem?_eq_getElem hi)) rfl Zx (by omega) fun r' hr'=>?_
   rw [List.append_nil]
   refine aG (cs:=[au r bs.length]) (off:=0) (e:=49) (l2:=aA 5 r') [(p15,_),(L,_),(Bs,_),(D,_)] rfl rfl rfl rfl yy rfl (by show 1≤1; decide) ?_
   refine x_mem (fun _ h=>h.less Ls (fun _ h=>h)) ?_
   refine Rn [13,27] ?_
   refine xt (fun w' hm=>⟨rfl,r',?_,?_⟩)
   ·rw [(if_neg (show ¬v / 128 > 0 by omega):(if v / 128 > 0 then UInt8.ofNat (v%128+128) else UInt8.ofNat (v%128))=_),jj,List.length_append]; exact hr'
   rw [(if_neg (show ¬v / 128 > 0 by omega):(if v / 128 > 0 then UInt8.ofNat (v%128+128) else UInt8.ofNat (v%128))=_),List.length_append]; exact hm.perm (List.Perm.swap _ _ _)
  rintro e w2 ⟨h1,r',v',h2,h3⟩
  exact ⟨h1,(r',v'),h2,h3.perm ((List.Perm.swap _ _ _).trans ((List.Perm.swap _ _ _).cons _))⟩
 rintro D ⟨r,v'⟩ hr
 dsimp only at hr ⊢
 refine Ag ?_
 refine xu ?_
 refine sd_seq ?_
 refine za ?_
 refine su rfl (aW jU rfl rfl (aa (vs:=[au r (bC n).length]) Zh rfl)) ?_
 refine su rfl (tX (E:=5) (bC n) jU u5 u9 rfl hr rfl (fun q hq=>.tail _ (.tail _ (.tail _ hq)))) ?_
 refine su rfl (gx rfl) ?_
 refine AK ?_
 refine xu ?_
 refine sd_ret ?_
 exact ret1M rfl rfl (fun w' hm=>⟨rfl,hm.b⟩)
open Go.RowKit Go.PK
theorem rd_in {D:Nat→Prop} {w:World} {A:Option Addr} {l c:Nat} {xs:List Int} (h:ab i8 D w (.slice A l c) xs):∀ d∈xs,aj d:=fun d hd=>by
 obtain ⟨j,hj,rfl⟩:=List.getElem_of_mem hd
 obtain ⟨_,_,_,_,_,h1⟩:=fW h hj
 exact h1
theorem c_Sgn (n:Int) (w:World) (h:aj n) :
  Calls Tryz.prog 121 #[Vi n] w fun e w'=>e=.returned (.int .u64 (ko n:Nat))∧Later w w':=by
 refine enter Tryz.func121 rfl Tryz.ntmps121 rfl ?_
 refine Rn [3,1,9,0] ?_
 refine Xv rfl (me u3 jo rfl) (Xv (v:=Value.int .u64 (IntKind.u64.wrap (IntKind.u64.wrap n*2))) rfl (v_shl rfl rfl (by decide) rfl) (Xm ?_))
 refine Xv (v:=Vi (n / 9223372036854775808)) rfl (v_shr rfl rfl (by decide) rfl) (Xv rfl (me u3 jo rfl) (Xv (v:=Value.int .u64 (ko n:Nat)) rfl (by rw [← xor_sgn h]; exact v_xorK rfl rfl) ?_))
 refine Rn [1,2,6] ?_
 refine aw rfl rfl (fun w' hm=>⟨?_,hm.b⟩)
 rfl
theorem c_rSgn (n:Int) (w:World) (h:aj n) :
  Calls Tryz.prog 97 #[Vi n] w fun e w'=>e=.returned (.int .u64 (ko n:Nat))∧Later w w':=by
 refine enter Tryz.func97 rfl Tryz.ntmps97 rfl ?_
 refine Rn [3,1,2,5,3,0,57,2,12] fun b4 hb4=>Aw (fun hc4=>?_) fun hc4=>?_
 ·refine Rn [3,0] ?_
  refine Xv rfl (fK (c:=n) u3 jo rfl (ct (by unfold aj at h; omega))) (Xv (v:=Value.int .u64 (ko n:Nat)) rfl (sy rfl rfl (by rw [ct (by unfold aj at h; omega)]; unfold ko; rw [if_pos (by omega)]; omega)) ?_)
  refine Rn [1,2,6,8] ?_
  refine aw rfl rfl (fun w' hm=>⟨?_,hm.b⟩)
  rfl
 refine Rn [23,0] ?_
 refine Xv rfl (dH (c:=-1 - n) rfl rfl rfl (by unfold aj at h; omega)) (Xv rfl (fK (c:=-1 - n) u3 jo rfl (ct (by unfold aj at h; omega))) (Xv rfl (sy (c:=2*(-1 - n)) rfl rfl (ct (by unfold aj at h; omega))) (Xv (v:=Value.int .u64 (ko n:Nat)) rfl (oV rfl rfl (by rw [ct (by unfold aj at h; omega)]; unfold ko; rw [if_neg (by omega)]; omega)) ?_)))
 refine Rn [1,2,6] ?_
 refine aw rfl rfl (fun w' hm=>⟨?_,hm.b⟩)
 rfl
theorem c_rN1 (n:Nat) (w:World) (hn:n < 18446744073709551616) (ih:¬n < 128→∀ w1,Calls Tryz.prog 96 #[.int .u64 ((n / 128:Nat):Int)] w1 fun e w2=>e=.returned (.string ⟨(bC (n / 128)).toArray⟩)∧Later w1 w2) :
  Calls Tryz.prog 96 #[.int .u64 (n:Nat)] w fun e w'=>e=.returned (.string ⟨(bC n).toArray⟩)∧Later w w':=by
 refine enter Tryz.func96 rfl Tryz.ntmps96 rfl ?_
 refine Rn [3,1,2,5,3,0,24,2,12] fun b4 hb4=>Aw (fun hc4=>?_) fun hc4=>?_
 ·have hn1:n < 128:=by omega
  refine Rn [3,0] ?_
  refine Xv rfl (jZ jo u5 rfl (by omega)) ?_
  refine ac rfl rfl rfl jU lq vk rfl rfl rfl ?_
  intro p7
  refine Xv rfl (ji [UInt8.ofNat n] jU u5 u9 rfl rfl (fun j hj=>aa (vs:=[Value.int .u8 ((UInt8.ofNat n).toNat:Nat)]) (.head _) (by match j,hj with | 0,_=>rfl))) ?_
  refine Rn [1,2,6,8] ?_
  refine aw rfl rfl (fun w' hm=>⟨?_,hm.b⟩)
  rw [dk hn1]
 have hn1:¬n < 128:=by omega
 refine Rn [16,5] ?_
 refine ew 11 [(true,0),(true,1),(true,2),(true,3),(true,6),(true,7),(true,8),(false,4),(true,5),(true,9),(true,10)] Zk Zk ?_
 refine Xm ?_
 refine Xv (v:=Value.int .u64 ((n%128:Nat):Int)) rfl (mw (b:=128) rfl rfl (by decide)) (Xv (v:=Value.int .u64 ((n%128+128:Nat):Int)) rfl (oV rfl rfl (by rw [ct (by omega)]; omega)) (Xv rfl (jZ jo u5 rfl (by omega)) (Xm ?_)))
 refine Xv (v:=Value.int .u64 ((n / 128:Nat):Int)) rfl (vM rfl rfl (by decide) (by rw [show ((n:Nat):Int).tdiv 128=((n / 128:Nat):Int) from rfl,ct (by omega)])) (Xc rfl Tryz.func96 rfl (fun w1 hw1=>ih hn1 w1) ?_)
 refine ac rfl rfl rfl jU lq vk rfl rfl rfl ?_
 intro p13
 refine Xv rfl (ji [UInt8.ofNat (n%128+128)] jU u5 u9 rfl rfl (fun j hj=>aa (vs:=[Value.int .u8 ((UInt8.ofNat (n%128+128)).toNat:Nat)]) (.head _) (by match j,hj with | 0,_=>rfl))) (Xv rfl (nt rfl rfl (by have:=dL (n:=n / 128) (by omega); simp only [List.length_cons,List.length_nil]; omega)) ?_)
 refine Rn [1,2,6] ?_
 refine aw rfl rfl (fun w' hm=>⟨?_,hm.b⟩)
 rw [ff hn1]; rfl
theorem c_rN:∀ (m n:Nat) (w:World),n < 18446744073709551616→n≤m→Calls Tryz.prog 96 #[.int .u64 (n:Nat)] w fun e w'=>e=.returned (.string ⟨(bC n).toArray⟩)∧Later w w'
 | 0,n,w,hn,h=>c_rN1 n w hn (fun h1=>by omega)
 | m+1,n,w,hn,h=>c_rN1 n w hn (fun h1 w1=>c_rN m (n / 128) w1 (by omega) (by omega))
theorem vN (n:Nat) (w:World) (hn:n < 18446744073709551616):Calls Tryz.prog 96 #[.int .u64 (n:Nat)] w fun e w'=>e=.returned (.string ⟨(bC n).toArray⟩)∧Later w w':=c_rN n n w hn (Nat.le_refl _)
theorem xy {D:Nat→Prop} {v:Value} {l:List Int} (w:World) (h:ab i8 D w v l) (hll:l.length≤1000000) :
  Calls Tryz.prog 44 #[v] w fun e w'=>e=.returned (.string ⟨(cF l).toArray⟩)∧Later w w':=by
 obtain ⟨A0,c0,rfl,hlc,hmx,-⟩:=id h
 have hin:∀ n∈l,-9223372036854775808≤n∧n≤9223372036854775807:=rd_in h
 refine enter Tryz.func44 rfl Tryz.ntmps44 rfl ?_
 refine Rn [3,1,9,0,31] ?_
 refine Xv rfl (fK (c:=((l.length:Nat):Int)) u3 jo rfl (ct (by omega))) (Xc (v:=Value.string ⟨(bC (l.length)).toArray⟩) rfl Tryz.func96 rfl (fun w1 hw1=>vN _ w1 (by omega)) ?_)
 refine Xv (v:=Value.string ⟨(fu l 0).toArray⟩) rfl (by rw [jw]; exact gx rfl) ?_
 refine Rn [2,5,3,1,2,14] ?_
 refine aO (σ:=Nat) (fun k=>k≤l.length) (fun k=>[(0,Value.slice A0 l.length c0),(3,Value.string ⟨(fu l k).toArray⟩),(4,Vi (k:Nat))]) (fun k=>[]) (fun k=>[(w,fun _=>True)]) (fun k=>l.length - k) (0) (Nat.zero_le _) (aC Zu (fun _ h=>h)) ?_
 rintro k hk
 refine Rn [144,5,3,0,0,31,24,2,12] fun b12 hb12=>Aw (fun hc12=>?_) fun hc12=>?_
 ·have hkl:k < l.length:=by omega
  obtain ⟨b0,o0,hA0,_,hc0,hk9⟩:=fW h hkl
  have hz:=mH (by omega) hin k (by omega)
  have hz2:=dL (mG hk9)
  refine Rn [16,5,14,18,0,0,0] ?_
  refine Xv rfl (ae ij cT (congrArg (fun A=>some (Value.slice A l.length c0)) hA0) rfl Zo rfl) (Xl rfl u3 rfl (an (.head _) trivial (by rw [Nat.mul_one]; exact hc0)) (Xc (v:=Value.int .u64 ((ko l[k]:Nat):Int)) rfl Tryz.func97 rfl (fun w1 hw1=>c_rSgn _ w1 hk9) ?_))
  refine Xc (v:=Value.string ⟨(bC (ko l[k])).toArray⟩) rfl Tryz.func96 rfl (fun w1 hw1=>vN _ w1 (mG hk9)) ?_
  refine Xv rfl (nt rfl rfl (by omega)) (Xv (v:=Value.string ⟨(fu l (k+1)).toArray⟩) rfl (by rw [jy hkl]; exact gx rfl) ?_)
  refine Rn [13,27,17,18,0,26,1,13] ?_
  exact aJ (k+1) (show k+1≤l.length by omega) (by omega) Zu (fun _ h=>h)
 obtain rfl:k=l.length:=by omega
 refine Rn [34,19,19,35,17,3,0,1,2,6] ?_
 refine aw rfl rfl (fun w' hm=>⟨?_,hm.b⟩)
 rw [kp]
theorem c_Ints {D:Nat→Prop} {v:Value} {l:List Int} (w:World) (h:ab i8 D w v l) (hll:l.length≤1000000) :
  Calls Tryz.prog 64 #[v] w fun e w'=>e=.returned (.string ⟨(cF l).toArray⟩)∧Later w w':=by
 obtain ⟨A0,c0,rfl,hlc,hmx,-⟩:=id h
 have hin:∀ n∈l,-9223372036854775808≤n∧n≤9223372036854775807:=rd_in h
 refine enter Tryz.func64 rfl Tryz.ntmps64 rfl ?_
 refine Rn [3,1,9,28,9,0,31] fun p3=>?_
 refine Xv rfl (fK (c:=((l.length:Nat):Int)) u3 jo rfl (ct (by omega))) (Xc (v:=Value.string ⟨(bC (l.length)).toArray⟩) rfl Tryz.func120 rfl (fun w1 hw1=>c_Num _ w1 (by omega)) ?_)
 refine aI (τ:=ak) (v:=.tuple #[Vi ((bC l.length).length:Nat),.nilIface]) (fun r'=>ag 1 r' ([]++bC l.length).length (ea ([]++bC l.length))) (fun r'=>(em 173 5 p3 (Pt p3) r' (([]++bC l.length).length))++[]) rfl rfl Tryz.func119 Zk rfl (fun w1 hw1=>by
  have h:=c_WS (l2:=[]) (bs:=[]) (r:=none) (pp:=(.pointer none)) w1 (hw1.to (by first | rfl | simp [em,aA])) (p:=p3) (.inl rfl) ⟨(bC l.length).toArray⟩ bG (by have:=dL (n:=l.length) (by omega); (try show (0:Nat)≤4000000000000); omega) (by rw [cU]; have:=dL (n:=l.length) (by omega); (try show (0:Nat)≤4000000000000); omega)
  rw [mY,cU] at h
  exact h.mono fun e w2 ⟨h1,r',h2,h3⟩=>⟨h1,r',h2,h3⟩) ?_
 intro r10 hr10
 rw [List.nil_append] at hr10
 refine Rn [2,5,3,0,31,0,2,14] ?_
 refine aO (σ:=Nat×ak) (fun x=>x.1≤l.length∧ag 1 x.2 (fu l x.1).length (ea (fu l x.1))) (fun x=>[(3,Pt p3),(11,Value.slice A0 l.length c0),(12,Vi (l.length:Nat)),(13,Vi (x.1:Nat))]) (fun x=>(em 173 5 p3 (Pt p3) x.2 ((fu l x.1).length))++[]) (fun x=>[(w,fun _=>True)]) (fun x=>l.length - x.1) ((0,r10)) (⟨Nat.zero_le _,by dsimp only; rw [jw]; exact hr10⟩) (aC Zu (fun _ h=>by rw [jw]; exact h)) ?_
 rintro ⟨k,r⟩ ⟨hk,hr⟩
 refine Rn [144] ?_
 dsimp only at hk hr
 refine Rn [3,24,2,5,12] fun b14 hb14=>Aw (fun hc14=>?_) fun hc14=>?_
 ·have hkl:k < l.length:=by omega
  obtain ⟨b0,o0,hA0,_,hc0,hk9⟩:=fW h hkl
  have hz:=mH (by omega) hin k (by omega)
  have hz2:=dL (mG hk9)
  refine Rn [16,5,14,3] ?_
  refine Xv rfl (ae ij cT (congrArg (fun A=>some (Value.slice A l.length c0)) hA0) rfl Zo rfl) (Xl rfl u3 rfl (an (.head _) trivial (by rw [Nat.mul_one]; exact hc0)) ?_)
  refine Rn [1,2,18,0] ?_
  refine Xc (v:=Value.int .u64 ((ko l[k]:Nat):Int)) rfl Tryz.func121 rfl (fun w1 hw1=>c_Sgn _ w1 hk9) ?_
  refine Xc (v:=Value.string ⟨(bC (ko l[k])).toArray⟩) rfl Tryz.func120 rfl (fun w1 hw1=>c_Num _ w1 (mG hk9)) ?_
  refine aI (τ:=ak) (v:=.tuple #[Vi ((bC (ko l[k])).length:Nat),.nilIface]) (fun r'=>ag 1 r' ((fu l k)++bC (ko l[k])).length (ea ((fu l k)++bC (ko l[k])))) (fun r'=>(em 173 5 p3 (Pt p3) r' (((fu l k)++bC (ko l[k])).length))++[]) rfl rfl Tryz.func119 Zk rfl (fun w1 hw1=>by
   have h:=c_WS (l2:=[]) (bs:=(fu l k)) (r:=r) (pp:=(Pt p3)) w1 (hw1.to (by first | rfl | simp [em,aA])) (p:=p3) (.inr rfl) ⟨(bC (ko l[k])).toArray⟩ hr (by omega) (by rw [cU]; omega)
   rw [mY,cU] at h
   exact h.mono fun e w2 ⟨h1,r',h2,h3⟩=>⟨h1,r',h2,h3⟩) ?_
  intro r20 hr20
  refine Rn [13,27,17,18,26,0,13] ?_
  exact aJ (x:=(k,r)) (μ:=fun q:Nat×ak=>l.length - q.1) (k+1,r20) ⟨by dsimp only; omega,by dsimp only; rw [jy hkl]; exact hr20⟩ (by simp only; omega) Zu (fun _ h=>by rw [jy hkl]; exact h)
 refine Rn [34,19,19,35,17,3] ?_
 obtain rfl:k=l.length:=by omega
 rw [kp] at hr
 refine aI (τ:=Unit) (v:=.string ⟨(cF l).toArray⟩) (fun _=>True) (fun _=>[]) rfl rfl Tryz.func122 Zk rfl (fun w1 hw1=>(c_BS (l2:=[]) (bs:=cF l) w1 (hw1.to (by rw [kp])) (p:=p3) (.inr rfl) hr (B:=w.heap.size) (fun q hq=>by rw [List.mem_singleton.1 hq]; exact Nat.le_refl _) (fun q hq=>by cases hq) (fun q hq=>hw1.newer (by simp) (by rw [kp]; exact List.mem_append_left _ hq)) hw1.b.size).mono fun e w2 h=>⟨h.1,(),trivial,h.2⟩) fun _ _=>?_
 refine Rn [1,2,6] ?_
 refine aw rfl rfl (fun w' hm=>⟨?_,hm.b⟩)
 rfl
open Go.RowKit Go.PK
theorem ap3:(Tryz.prog.info? 3).map (fun j=>(j.zero,j.size,j.bytes))=some (some (Vi 0),1,8):=by kernel_rfl
theorem c_RN (s:ByteArray) (w:World) (hs:s.size≤2000000) :
  Calls Tryz.prog 171 #[.string s] w fun e w'=>e=.returned (.tuple #[.int .u64 ((gw (bl s)).1:Nat),Vi ((gw (bl s)).2.1:Nat),Vi (gw (bl s)).2.2])∧Later w w':=by
 refine enter Tryz.func171 rfl Tryz.ntmps171 rfl ?_
 refine Rn [3,1,1,1,9,1,2,5,3,0,0,53] ?_
 refine Xv (v:=Vi ((min s.size 10:Nat):Int)) rfl (by rw [show ((min s.size 10:Nat):Int)=min (s.size:Int) 10 by omega]; exact tG rfl rfl) (Xv rfl (iF (j:=min s.size 10) u9 rfl rfl (by omega)) ?_)
 obtain ⟨t,ht⟩:∃ t,s.extract 0 (min s.size 10)=t:=⟨_,rfl⟩
 have htb:bl t=(bl s).take 10:=by rw [← ht,iy,List.drop_zero,Nat.sub_zero]; by_cases h:s.size≤10; (· rw [Nat.min_eq_left h,List.take_of_length_le (by rw [a8]; omega),List.take_of_length_le (by rw [a8]; omega)]); rw [Nat.min_eq_right (by omega)]
 have hts:t.size=min s.size 10:=by rw [← a8 t,htb,List.length_take,a8]; omega
 have hsl:(bl s).length=s.size:=a8 s
 refine x_bytes (e:=5) (s:=t) rfl rfl rfl u9 jU u5 (by rw [← ht]; rfl) fun p13 cp cs fz hcp hcs=>?_
 have hce:∀ i (h:i < t.size) (h2:i < (bl s).length),cs[0+i*1]?=some (Value.int .u8 (((bl s)[i].toNat:Nat):Int)):=fun i h h2=>by
  have e1:cs[i]?=(cs.take t.size)[i]?:=by rw [List.getElem?_take,if_pos h]
  have h3:i < (bl t).length:=by rw [a8]; exact h
  have e2:(bl t)[i]=(bl s)[i]:=by simp [htb]
  rw [Nat.zero_add,Nat.mul_one,e1,hcs]
  show (ea (bl t))[i]?=_
  rw [rE h3,e2]
 refine Rn [31,0,2,14] ?_
 refine aO (σ:=Nat×Int) (fun x=>x.1≤t.size∧(∀ j (hj:j < (bl s).length),j < x.1→128≤(bl s)[j].toNat)∧(x.1≤9→x.2=((gV ((bl s).take x.1):Nat):Int))) (fun x=>[(0,Value.string s),(5,Value.int .u64 x.2),(13,Value.slice (some ⟨p13,0,none⟩) t.size cp),(14,Vi (t.size:Nat)),(15,Vi (x.1:Nat))]) (fun x=>[(p13,Obj.cells cs.toArray 5 fz)]) (fun x=>[(w,fun _=>True)]) (fun x=>t.size - x.1) ((0,0)) (⟨Nat.zero_le _,(fun j hj h=>absurd h (Nat.not_lt_zero _)),fun _=>rfl⟩) (aC Zu (fun _ h=>h)) ?_
 rintro ⟨i,v⟩ ⟨hi,hH,hv⟩
 refine Rn [144] ?_
 dsimp only at hi hH hv
 refine Rn [3,24,2,5,12] fun b16 hb16=>Aw (fun hc16=>?_) fun hc16=>?_
 ·have hit:i < t.size:=by omega
  have hil:i < (bl s).length:=by omega
  obtain ⟨b,hb⟩:∃ b,(bl s)[i]=b:=⟨_,rfl⟩
  have hbl:=b.toNat_lt
  have hce1:=hce i hit hil
  have hgs:=ny hil
  rw [hb] at hce1
  refine Rn [16,5,14,3,0,46] ?_
  refine Xl rfl u5 rfl (aa (vs:=cs) (.head _) hce1) ?_
  refine Rn [1,1,9,0,0] ?_
  refine Xv (v:=Value.int .u8 ((b.toNat%128:Nat):Int)) rfl (mw (b:=128) rfl rfl (by decide)) (Xv rfl (fK (c:=((b.toNat%128:Nat):Int)) u5 jo rfl (ct (by omega))) (Xm ?_))
  refine Xv rfl (cY (c:=((7*i:Nat):Int)) rfl rfl (by omega) (by omega)) (Xv rfl (v_shl rfl rfl (by omega) rfl) ?_)
  obtain ⟨nv,hnv⟩:∃ nv,orK .u64 v (IntKind.u64.wrap (((b.toNat%128:Nat):Int)*2 ^ min (((7*i:Nat):Int)).toNat IntKind.u64.bits))=nv:=⟨_,rfl⟩
  refine Xv (v:=Value.int .u64 nv) rfl (by rw [← hnv]; exact v_orK rfl rfl) ?_
  have hacc:gV ((bl s).take (i+1)) < 18446744073709551616→nv=((gV ((bl s).take (i+1)):Nat):Int):=fun h=>by
   have:=acc_step hil h
   rw [hb,← hv (by omega)] at this
   rw [← hnv]; exact this
  refine Rn [1,2,5,3,0,57,2,12] fun b29 hb29=>Aw (fun hc29=>?_) fun hc29=>?_
  ·have hb8:128≤b.toNat:=by omega
   refine Rn [34,19,35,17,18,26,0,13] ?_
   exact aJ (x:=(i,v)) (μ:=fun q:Nat×Int=>t.size - q.1) (i+1,nv) ⟨hit,fun j hj hji=>by rcases Nat.lt_succ_iff_lt_or_eq.1 hji with h | rfl; (· exact hH j hj h); rw [hb]; exact hb8,fun h9=>hacc (gV_ten hil (by dsimp only at h9; omega))⟩ (by simp only; omega) Zu (fun _ h=>h)
  have hb8:b.toNat < 128:=by omega
  have hst:=lU (l:=(bl s)) hil (by omega) hH (by rw [hb]; exact hb8)
  rw [hb] at hst
  refine Rn [16,5,3,0,60,0,21,73,30,0,21,73,21,71] fun b31 hb31 b34 hb34 b35 hb35 b38 hb38=>?_
  refine fp [(b35,false)] rfl rfl rfl rfl rfl (fun hg=>by obtain ⟨hg0,hg1,_⟩:=hg; subst hg0; subst hg1; (try simp only [Qy]); exact wz rfl rfl) fun b41 hb41=>?_
  refine Rn [81,25,2,10] fun b42 hb42 b43 hb43=>Aw (fun hc43=>?_) fun hc43=>?_
  ·have hc:(0 < i∧b.toNat=0)∨(i=9∧1 < b.toNat):=by
    rw [hb43,hb42,hb41,hb38,hb35,hb34,hb31] at hc43
    simp only [Bool.or_eq_true,Bool.and_eq_true,decide_eq_true_eq] at hc43
    omega
   rw [if_pos hc] at hst
   refine Rn [3,1,1,1,2,6,8,15,8,8,15,8] ?_
   refine dJ rfl rfl rfl rfl (fun w' hm=>⟨?_,hm.b⟩)
   rw [hst]; rfl
  have hc:¬((0 < i∧b.toNat=0)∨(i=9∧1 < b.toNat)):=by
   intro h
   have h43:b43=true:=by
    rw [hb43,hb42,hb41,hb38,hb35,hb34,hb31]
    simp only [Bool.or_eq_true,Bool.and_eq_true,decide_eq_true_eq]
    omega
   rw [h43] at hc43; cases hc43
  rw [if_neg hc] at hst
  have hnv2:=hacc (lV hil (by omega) (by rw [hb]; exact hb8) (by rw [hb]; exact fun h=>hc (.inr h)))
  subst hnv2
  refine Rn [23,0,0] ?_
  refine Xv rfl (bg (c:=((i+1:Nat):Int)) rfl rfl (by omega) (by omega)) ?_
  refine Rn [1,1,1,2,6,15,8,8,15,8] ?_
  refine dJ rfl rfl rfl rfl (fun w' hm=>⟨?_,hm.b⟩)
  rw [hst]
 have hend:=vP (l:=(bl s)) (fun j hj hj9=>hH j hj (by omega))
 refine Rn [34,19,19,35,17,5,3,0,53,24,2,12] fun b50 hb50=>Aw (fun hc50=>?_) fun hc50=>?_
 ·rw [if_pos (by omega)] at hend
  refine Rn [3,1,1,1,2,6,8] ?_
  refine dJ rfl rfl rfl rfl (fun w' hm=>⟨?_,hm.b⟩)
  rw [hend]; rfl
 rw [if_neg (by omega)] at hend
 refine Rn [23,1,1,1,2,6] ?_
 refine dJ rfl rfl rfl rfl (fun w' hm=>⟨?_,hm.b⟩)
 rw [hend]; rfl
theorem AO (s:ByteArray) (w:World) (hs:s.size≤2000000) :
  Calls Tryz.prog 94 #[.string s] w fun e w'=>e=.returned (.tuple #[.int .u64 ((gw (bl s)).1:Nat),Vi ((gw (bl s)).2.1:Nat),Vi (gw (bl s)).2.2])∧Later w w':=by
 refine enter Tryz.func94 rfl Tryz.ntmps94 rfl ?_
 refine Rn [3,1,1,1,9,1,9,1,2,5,3,1,2,14] ?_
 refine aO (σ:=Nat) (fun i=>i≤s.size∧i≤10∧(∀ j (hj:j < (bl s).length),j < i→128≤(bl s)[j].toNat)) (fun i=>[(0,Value.string s),(5,Value.int .u64 ((gV ((bl s).take (i))%18446744073709551616):Nat)),(6,Value.int .u64 ((128 ^ (i)%18446744073709551616):Nat)),(7,Vi (i:Nat))]) (fun i=>[]) (fun i=>[(w,fun _=>True)]) (fun i=>10 - i) (0) (⟨Nat.zero_le _,Nat.zero_le _,(fun j hj h=>absurd h (Nat.not_lt_zero _))⟩) (aC Zu (fun _ h=>h)) ?_
 rintro i ⟨hi,hi10,hH⟩
 refine Rn [144] ?_
 have hsl:(bl s).length=s.size:=a8 s
 refine Rn [5,3,0,0,53,24,0,21,72,30,2,12] fun b12 hb12 b15 hb15 b16 hb16=>Aw (fun hc16=>?_) fun hc16=>?_
 ·have his:i < s.size:=by omega
  have hil:i < (bl s).length:=by omega
  have hi9:i < 10:=by omega
  obtain ⟨b,hb⟩:∃ b,ad s i=b:=⟨_,rfl⟩
  have hbe:(bl s)[i]=b:=by rw [iv hil,hb]
  have hbl:=b.toNat_lt
  have hms:=mod_step hil
  rw [hbe] at hms
  obtain ⟨G,hG⟩:∃ G,(gV ((bl s).take (i+1))%18446744073709551616)=G:=⟨_,rfl⟩
  rw [hG] at hms
  have hGl:G < 18446744073709551616:=by rw [← hG]; exact Nat.mod_lt _ (by decide)
  refine Rn [16,5,14,3,0,0,0] ?_
  refine Xv (v:=Value.int .u8 ((b.toNat:Nat):Int)) rfl (by rw [← hb]; exact bv (j:=i) u9 rfl rfl (by omega)) (Xv (v:=Value.int .u8 ((b.toNat%128:Nat):Int)) rfl (mw (b:=128) rfl rfl (by decide)) (Xv rfl (fK (c:=((b.toNat%128:Nat):Int)) u5 jo rfl (ct (by omega))) (Xm ?_)))
  refine Xv rfl (sy (c:=((b.toNat%128*(128 ^ (i)%18446744073709551616)%18446744073709551616:Nat):Int)) rfl rfl (by rw [← Int.natCast_mul,sG])) (Xv rfl (oV (c:=((G:Nat):Int)) rfl rfl (by rw [← Int.natCast_add,sG,hms])) ?_)
  refine Rn [1,9,0] ?_
  refine Xv rfl (sy (b:=128) (c:=(((128 ^ (i+1)%18446744073709551616):Nat):Int)) rfl rfl (by rw [show (((128 ^ (i)%18446744073709551616):Nat):Int)*128=(((128 ^ (i)%18446744073709551616)*128:Nat):Int) from by rw [Int.natCast_mul]; rfl,sG,Nat.mod_mul_mod,← Nat.pow_succ])) ?_
  refine Rn [1,9,0,0] ?_
  refine Xv (v:=Value.int .u8 ((b.toNat:Nat):Int)) rfl (by rw [← hb]; exact bv (j:=i) u9 rfl rfl (by omega)) ?_
  refine Rn [24,2,12] fun b33 hb33=>Aw (fun hc33=>?_) fun hc33=>?_
  ·have hb8:(bl s)[i].toNat < 128:=by rw [hbe]; omega
   refine Rn [3,0] ?_
   refine Xc (v:=Value.string ⟨(bC G).toArray⟩) rfl Tryz.func96 rfl (fun w1 hw1=>vN G w1 hGl) ?_
   refine Rn [1,2,5,3,0,0,0] ?_
   refine Xv rfl (bg (c:=((i+1:Nat):Int)) rfl rfl (by omega) (by omega)) (Xv rfl (iF (j:=i+1) u9 rfl rfl (by omega)) ?_)
   refine Rn [99,2,12] fun b41 hb41=>Aw (fun hc41=>?_) fun hc41=>?_
   ·have he:bC G=(bl s).take (i+1):=by have h:=congrArg bl hc41; rw [mY,iy,List.drop_zero,Nat.sub_zero] at h; exact h
    have hst:=rr_yes hil hi9 hH hb8 (by rw [hG]; exact he)
    rw [hG] at hst
    refine Rn [3,0,0] ?_
    refine Xv rfl (bg (c:=((i+1:Nat):Int)) rfl rfl (by omega) (by omega)) ?_
    refine Rn [1,1,1,2,6,8,15,8,8,15,8] ?_
    refine dJ rfl rfl rfl rfl (fun w' hm=>⟨?_,hm.b⟩)
    rw [hst]
   have hst:=rr_no hil hi9 hH hb8 (by rw [hG]; intro h; exact hc41 (mE (by rw [mY,iy,List.drop_zero,Nat.sub_zero]; exact h)))
   refine Rn [23,1,1,1,2,6,15,8,8,15,8] ?_
   refine dJ rfl rfl rfl rfl (fun w' hm=>⟨?_,hm.b⟩)
   rw [hst]; rfl
  have hb8:128≤(bl s)[i].toNat:=by rw [hbe]; omega
  refine Rn [45,27,17,18,0,26,1,13] ?_
  exact aJ (i+1) ⟨by omega,by omega,fun j hj hji=>by rcases Nat.lt_succ_iff_lt_or_eq.1 hji with h | rfl; (· exact hH j hj h); exact hb8⟩ (by omega) (by rw [hG]; exact Zu) (fun _ h=>h)
 have hend:=vP (l:=(bl s)) (fun j hj hj9=>hH j hj (by omega))
 refine Rn [34,19,19,35,17,5,3,0,53,24,2,12] fun b47 hb47=>Aw (fun hc47=>?_) fun hc47=>?_
 ·rw [if_pos (by omega)] at hend
  refine Rn [3,1,1,1,2,6,8] ?_
  refine dJ rfl rfl rfl rfl (fun w' hm=>⟨?_,hm.b⟩)
  rw [hend]; rfl
 rw [if_neg (by omega)] at hend
 refine Rn [23,1,1,1,2,6] ?_
 refine dJ rfl rfl rfl rfl (fun w' hm=>⟨?_,hm.b⟩)
 rw [hend]; rfl
theorem c_Uns (n:Nat) (w:World) (hn:n < 18446744073709551616) :
  Calls Tryz.prog 147 #[.int .u64 (n:Nat)] w fun e w'=>e=.returned (Vi (sF n))∧Later w w':=by
 refine enter Tryz.func147 rfl Tryz.ntmps147 rfl ?_
 refine Rn [3,1,9,0] ?_
 refine Xv rfl (v_shr (c:=((n / 2:Nat):Int)) rfl rfl (by decide) (by show (n:Int) / 2 ^ 1=_; omega)) (Xv rfl (fK (c:=((n / 2:Nat):Int)) jo u3 rfl (eV (by omega))) (Xm ?_))
 refine Xv (v:=Value.int .u64 ((n%2:Nat):Int)) rfl (by rw [← and1U hn]; exact v_andK rfl rfl) (Xv rfl (fK (c:=((n%2:Nat):Int)) jo u3 rfl (eV (by omega))) (Xv rfl (v_negI rfl) (Xv (v:=Vi (sF n)) rfl (by rw [← xor_uns hn]; exact v_xorK rfl rfl) ?_)))
 refine Rn [1,2,6] ?_
 refine aw rfl rfl (fun w' hm=>⟨?_,hm.b⟩)
 rfl
theorem c_rUns (n:Nat) (w:World) (hn:n < 18446744073709551616) :
  Calls Tryz.prog 95 #[.int .u64 (n:Nat)] w fun e w'=>e=.returned (Vi (sF n))∧Later w w':=by
 refine enter Tryz.func95 rfl Tryz.ntmps95 rfl ?_
 refine Rn [3,1,2,5,3,0] ?_
 refine Xv (v:=Value.int .u64 ((n%2:Nat):Int)) rfl (mw (b:=2) rfl rfl (by decide)) ?_
 refine Rn [38,2,12] fun b5 hb5=>Aw (fun hc5=>?_) fun hc5=>?_
 ·have h2:n%2=0:=by omega
  refine Rn [3,0] ?_
  refine Xv rfl (vM (c:=((n / 2:Nat):Int)) rfl rfl (by decide) (by rw [show ((n:Nat):Int).tdiv 2=((n / 2:Nat):Int) from rfl,ct (by omega)])) (Xv rfl (fK (c:=((n / 2:Nat):Int)) jo u3 rfl (eV (by omega))) ?_)
  refine Rn [1,2,6,8] ?_
  refine aw rfl rfl (fun w' hm=>⟨?_,hm.b⟩)
  unfold sF; rw [if_pos h2]
 have h2:¬n%2=0:=by omega
 refine Rn [23,0] ?_
 refine Xv rfl (vM (c:=((n / 2:Nat):Int)) rfl rfl (by decide) (by rw [show ((n:Nat):Int).tdiv 2=((n / 2:Nat):Int) from rfl,ct (by omega)])) (Xv rfl (fK (c:=((n / 2:Nat):Int)) jo u3 rfl (eV (by omega))) (Xv rfl (dH (c:=-1 - ((n / 2:Nat):Int)) rfl rfl rfl (by omega)) ?_))
 refine Rn [1,2,6] ?_
 refine aw rfl rfl (fun w' hm=>⟨?_,hm.b⟩)
 unfold sF; rw [if_neg h2]
theorem c_in {w:World} {l2:List (Nat×Obj)} {ro:List av} {bq:Nat} {te:TypeId} {rest:List Value} (left:ByteArray) (hm:Mem w ((bq,Obj.cells ((Value.string left::Vi 0::rest)).toArray te (0,0))::l2) ro) (hs:left.size≤2000000) :
  Calls Tryz.prog 146 #[Pt bq] w fun e w'=>e=.returned (.int .u64 ((ed left).1:Nat))∧Mem w' ((bq,Obj.cells ((Value.string (ed left).2.1::Vi (ed left).2.2::rest)).toArray te (0,0))::l2) ro:=by
 refine ay hm Tryz.func146 rfl Tryz.ntmps146 rfl ?_
 refine Rn [3,1,2,5,3,0,11,4,7,37,2,10] fun b10 hb10=>Aw (fun hc10=>?_) fun hc10=>?_
 ·cases hb10.symm.trans hc10
 refine Rn [23,0,11,4,7] ?_
 refine Xc (v:=.tuple #[.int .u64 ((gw (bl left)).1:Nat),Vi ((gw (bl left)).2.1:Nat),Vi (gw (bl left)).2.2]) rfl Tryz.func171 rfl (fun w1 hw1=>c_RN left w1 hs) ?_
 have hrl:=rn_le (bl left)
 rw [a8] at hrl
 refine Rn [0,20,20,20,1,1,1,9,0,0,0,11,4,7,0] ?_
 refine Xv rfl (jg (i:=(gw (bl left)).2.1) u9 rfl rfl (by omega)) ?_
 refine Rn [0,11,4] ?_
 refine aG (cs:=(Value.string left::Vi 0::rest)) (off:=0) (e:=te) (l2:=l2) [] rfl rfl rfl rfl gG rfl (by simp) ?_
 refine Rn [11,4] ?_
 refine aG (cs:=(Value.string (ed left).2.1::Vi 0::rest)) (off:=1) (e:=te) (l2:=l2) [] rfl rfl rfl rfl Ap rfl (by simp) ?_
 refine Rn [9,0,1,2,6] ?_
 exact aw rfl rfl (fun w' hm=>⟨rfl,hm.less (List.Sublist.refl _) (fun s hs=>by repeat (first | exact hs | apply List.mem_cons_of_mem))⟩)
attribute [local irreducible] WX
theorem c_RI (s:ByteArray) (w:World) (hs:s.size≤2000000) :
  Calls Tryz.prog 98 #[.string s] w fun e w'=>∃ v,e=.returned (.tuple #[v,Vi (zv s).2])∧Later w w'∧ab i8 (fun b=>w.heap.size≤b) w' v (zv s).1:=by
 refine enter Tryz.func98 rfl Tryz.ntmps98 rfl ?_
 refine Rn [3,1,1,9,0] ?_
 refine Xv (v:=Value.agg #[.string s,Vi 0]) rfl (aH (places:=[(0,1),(1,1)]) u196 zr196 Zk rfl rfl) ?_
 refine Rn [36,1,9,0] fun p10=>?_
 refine aI (τ:=Unit) (v:=Value.int .u64 ((ed s).1:Nat)) (fun _=>True) (fun _=>[(Bk p10 ([Value.string (ed s).2.1,Vi (ed s).2.2]) 196)]) rfl rfl Tryz.func146 Zk rfl (fun w1 hw1=>(c_in (te:=196) (rest:=[]) (l2:=[]) s (hw1.to rfl) hs).mono fun e w2 ⟨h1,h2⟩=>⟨h1,(),trivial,h2⟩) fun _ _=>?_
 have hl0:=(in_le s).1
 have hmy:=(in_le s).2
 obtain ⟨RES,hRES⟩:∃ q,(AM (ed s).1 (ed s).2.1 (ed s).2.2 [])=q:=⟨_,rfl⟩
 have hup:zv s=qb RES:=by rw [As,hRES]
 obtain ⟨e0,he0⟩:∃ e0,(ed s).2.2=e0:=⟨_,rfl⟩
 obtain ⟨l0,hl0e⟩:∃ l0,(ed s).2.1=l0:=⟨_,rfl⟩
 obtain ⟨many,hme⟩:∃ m,(ed s).1=m:=⟨_,rfl⟩
 rw [hl0e] at hl0
 rw [hme] at hmy
 rw [hme,hl0e,he0] at hRES
 rw [hme,hl0e,he0]
 refine Rn [1,9,1,2,5,3,1,2,14] ?_
 refine aO (σ:=Nat×ByteArray×Int×List Int×ak) (fun x=>x.1≤many∧x.2.1.size+x.2.2.2.1.length≤s.size+(if x.2.2.1=0 then 0 else 1)∧(∀ d∈x.2.2.2.1,aj d)∧ag 1 x.2.2.2.2 x.2.2.2.1.length (x.2.2.2.1.map (Value.int .i64))∧AM (many - x.1) x.2.1 x.2.2.1 x.2.2.2.1=RES) (fun x=>[(0,Value.string s),(4,Pt p10),(5,Value.int .u64 (many:Nat)),(6,au x.2.2.2.2 x.2.2.2.1.length),(7,Value.int .u64 (x.1:Nat))]) (fun x=>(Bk p10 ([Value.string x.2.1,Vi x.2.2.1]) 196)::aA 3 x.2.2.2.2) (fun x=>[(w,fun _=>True)]) (fun x=>if x.2.2.1=0 then x.2.1.size+1 else 0) ((0,l0,e0,[],none)) (⟨Nat.zero_le _,(by dsimp only; rw [List.length_nil]; omega),(fun y hy=>by cases hy),bG,hRES⟩) (aC Zu (fun _ h=>h)) ?_
 rintro ⟨i,left,e,out,R⟩ ⟨him,hsz,hal,hR,hU⟩
 refine Rn [144] ?_
 dsimp only at him hsz hal hR hU
 refine Rn [5,3,0,0,24,0,21,59,22,40,73,30,2,12] fun b15 hb15 b21 hb21 b22 hb22=>Aw (fun hc22=>?_) fun hc22=>?_
 ·obtain ⟨hil,hez⟩:i < many∧e=0:=⟨by have:=hc22.1; omega,hc22.2⟩
  subst hez
  rw [ut hil] at hU
  have hle:=in_le left
  rw [if_pos rfl] at hsz
  refine Rn [16,5,14,18,0,0] ?_
  refine aI (τ:=Unit) (v:=Value.int .u64 ((ed left).1:Nat)) (fun _=>True) (fun _=>(Bk p10 ([Value.string (ed left).2.1,Vi (ed left).2.2]) 196)::aA 3 R) rfl rfl Tryz.func146 Zk rfl (fun w1 hw1=>(c_in (te:=196) (rest:=[]) (l2:=aA 3 R) left (hw1.to rfl) (by omega)).mono fun e w2 ⟨h1,h2⟩=>⟨h1,(),trivial,h2⟩) fun _ _=>?_
  refine Xc (v:=Vi (sF (ed left).1)) rfl Tryz.func147 rfl (fun w1 hw1=>c_Uns _ w1 hle.2) ?_
  obtain ⟨d,hd⟩:∃ d,sF (ed left).1=d:=⟨_,rfl⟩
  have hdin:aj d:=hd▸vR hle.2
  rw [hd] at hU ⊢
  refine ac (cs:=[Vi d]) rfl rfl rfl ij cT rP rfl rfl rfl ?_
  intro p29
  refine be (e:=3) [(Bk p29 [Vi d] 3),(Bk p10 ([Value.string (ed left).2.1,Vi (ed left).2.2]) 196)] (l2:=[]) R (len:=out.length) (xs:=out.map (Value.int .i64)) rfl rfl rfl rfl (by simp) hR ij ap3 rfl rfl (m:=1) (news:=[Vi d]) (fun i hi=>aa (vs:=[Vi d]) (.head _) (by rw [Nat.zero_add]; exact List.getElem?_eq_getElem hi)) rfl Zx (by omega) fun R' hR'=>?_
  have hR':ag 1 R' (out++[d]).length ((out++[d]).map (Value.int .i64)):=by rw [List.length_append,List.map_append]; exact hR'
  refine Rn [1,13,27,17,18,0] ?_
  refine Xv rfl (oV (c:=((i+1:Nat):Int)) rfl rfl (by rw [ct (by omega)]; omega)) ?_
  refine Rn [1,13] ?_
  refine aJ (x:=(i,left,0,out,R)) (μ:=fun x:Nat×ByteArray×Int×List Int×ak=>if x.2.2.1=0 then x.2.1.size+1 else 0) (i+1,(ed left).2.1,(ed left).2.2,out++[d],R') ⟨hil,?_,fun y hy=>by rcases List.mem_append.1 hy with h | h; (· exact hal y h); rw [List.mem_singleton.1 h]; exact hdin,hR',hU⟩ ?_ (by dsimp only; rw [List.length_append,List.length_singleton]; exact Zu) (fun w1 h=>h.less (own':=(Bk p10 ([Value.string (ed left).2.1,Vi (ed left).2.2]) 196)::aA 3 R') (by simp only [List.append_nil]; exact List.sublist_cons_self _ _) (fun _ h=>h))
  ·dsimp only; rw [List.length_append,List.length_singleton]; by_cases h0:(ed left).2.2=0; (· rw [if_pos h0]; have:=(Ah h0).2.1; omega); rw [if_neg h0]; omega
  dsimp only; rw [if_pos rfl]; by_cases h0:(ed left).2.2=0; (· rw [if_pos h0]; have:=(Ah h0).2.1; omega); rw [if_neg h0]; omega
 have hE:=sH (m:=many) (i:=i) (l:=left) (e:=e) (out:=out) (by rcases hc22 with h | h; (· exact .inl (by omega)); exact .inr h)
 rw [hU] at hE
 rw [hE] at hup
 refine Rn [34,19,19,35,17,5,3,0,11,4,7,38,0,21,59,22,40,108,30,2,12] fun b35 hb35 b41 hb41 b42 hb42=>Aw (fun hc42=>?_) fun hc42=>?_
 ·obtain ⟨hez,hln⟩:=hc42
  subst hez
  rw [uu hln] at hup
  have hF:=hup
  refine Rn [18,0,11,4] ?_
  refine aG (cs:=[Value.string left,Vi 0]) (off:=1) (e:=196) (l2:=aA 3 R) [] rfl rfl rfl rfl Ap rfl (by show 2≤2; decide) ?_
  refine Rn [2,5,3,0,11,4] ?_
  refine Xl rfl u30 rfl (aa (vs:=[Value.string left,Vi 11]) Zh rfl) ?_
  refine Rn [37,2,10] fun b50 hb50=>Aw (fun hc50=>?_) fun hc50=>?_
  ·refine Zs ?_
   refine bc 6 ?_
   refine Rn [0,11,4] ?_
   refine Xl rfl u30 rfl (aa (vs:=[Value.string left,Vi 11]) Zh rfl) ?_
   refine Rn [1,1,2,6,8] ?_
   refine s7 rfl rfl rfl (fun w' hm=>⟨_,by rw [hF] <;> rfl,hm.b,by rw [hF]; exact ⟨none,0,rfl,Nat.le_refl _,Nat.zero_le _,fun h=>absurd h (Nat.lt_irrefl 0)⟩⟩)
  simp [hb50] at hc50
 refine Rn [16,5,3,0,11,4,7,37,2,10] fun b50 hb50=>Aw (fun hc50=>?_) fun hc50=>?_
 ·have hez:e≠0:=by rw [hb50] at hc50; exact of_decide_eq_true hc50
  rw [sJ hez] at hup
  have hF:=hup
  refine Zs ?_
  refine bc 6 ?_
  refine Rn [0,11,4,7,1,1,2,6,8] ?_
  refine s7 rfl rfl rfl (fun w' hm=>⟨_,by rw [hF] <;> rfl,hm.b,by rw [hF]; exact ⟨none,0,rfl,Nat.le_refl _,Nat.zero_le _,fun h=>absurd h (Nat.lt_irrefl 0)⟩⟩)
 obtain rfl:e=0:=by rw [hb50] at hc50; have:=of_decide_eq_false hc50; omega
 have hln:left=⟨#[]⟩:=by rcases hc42 with h | h; (· exact absurd rfl h); exact h
 rw [hln,Av] at hup
 have hF:=hup
 refine Rn [23,0,1,1,2,6] ?_
 refine s7 rfl rfl rfl (fun w' hm=>⟨au R out.length,by rw [hF],hm.b,?_⟩)
 rw [hF]
 exact dy (e:=3) hR rfl hal hm (fun q hq=>by simp [hq]) (fun q hq=>hm.newer (by simp) (by simp [hq]))
theorem c_rRIo (s:ByteArray) (w:World) (hs:s.size≤2000000) :
  Calls Tryz.prog 42 #[.string s] w fun e w'=>∃ R:ak,e=.returned (.tuple #[au R (zv s).1.length,Vi (zv s).2])∧ag 1 R (zv s).1.length ((zv s).1.map (Value.int .i64))∧(∀ y∈(zv s).1,aj y)∧Mem w' (aA 3 R) [(w,fun _=>True)]:=by
 refine enter Tryz.func42 rfl Tryz.ntmps42 rfl ?_
 refine Rn [3,1,1,9,0] ?_
 refine Xc (v:=.tuple #[.int .u64 ((gw (bl s)).1:Nat),Vi ((gw (bl s)).2.1:Nat),Vi (gw (bl s)).2.2]) rfl Tryz.func94 rfl (fun w1 hw1=>AO s w1 hs) ?_
 obtain ⟨many,z0,e0,hrn⟩:∃ m z e,gw (bl s)=(m,z,e):=⟨_,_,_,rfl⟩
 have hle0:=rn_le (bl s)
 rw [a8,hrn] at hle0
 dsimp only at hle0
 obtain ⟨hz0,hmy⟩:=hle0
 have hin0:ed s=(many,s.extract z0 s.size,e0):=by unfold ed; rw [hrn]
 obtain ⟨RES,hRES⟩:∃ q,(AM (ed s).1 (ed s).2.1 (ed s).2.2 [])=q:=⟨_,rfl⟩
 have hup:zv s=qb RES:=by rw [As,hRES]
 rw [hin0] at hRES
 dsimp only at hRES
 rw [hrn]
 dsimp only
 refine Rn [0,20,20,20,1,1,1,2,5,3,0,37,2,12] fun b19 hb19=>Aw (fun hc19=>?_) fun hc19=>?_
 ·have hez:e0≠0:=hc19
  have hF:=hup
  rw [← hRES,show (AM many (s.extract z0 s.size) e0 [])=(s.extract z0 s.size,e0,[]) from if_neg hez,sJ hez] at hF
  refine Rn [3,0,1,1,2,6,8] ?_
  refine s7 rfl rfl rfl (fun w' hm=>⟨none,by rw [hF] <;> rfl,by rw [hF]; exact bG,by rw [hF]; exact (fun y hy=>by cases hy),hm.less (List.nil_sublist _) (fun q hq=>by rw [List.mem_singleton.1 hq]; simp)⟩)
 obtain rfl:e0=0:=by omega
 refine Rn [23,1,2,5,3,1,2,14] ?_
 refine aO (σ:=Nat×Nat×List Int×ak) (fun x=>x.1≤many∧x.2.1≤s.size∧x.2.2.1.length≤x.2.1∧(∀ y∈x.2.2.1,aj y)∧ag 1 x.2.2.2 x.2.2.1.length (x.2.2.1.map (Value.int .i64))∧AM (many - x.1) (s.extract x.2.1 s.size) 0 x.2.2.1=RES) (fun x=>[(0,Value.string s),(4,Value.int .u64 (many:Nat)),(5,Vi (x.2.1:Nat)),(7,au x.2.2.2 x.2.2.1.length),(8,Value.int .u64 (x.1:Nat))]) (fun x=>aA 3 x.2.2.2) (fun x=>[(w,fun _=>True)]) (fun x=>s.size - x.2.1) ((0,z0,[],none)) (⟨Nat.zero_le _,hz0,Nat.zero_le _,(fun y hy=>by cases hy),bG,hRES⟩) (aC Zu (fun _ h=>h)) ?_
 rintro ⟨i,a,out,R⟩ ⟨him,has,hol,hal,hR,hU⟩
 refine Rn [144] ?_
 dsimp only at him has hol hal hR hU
 refine Rn [5,3,0,0,24,2,12] fun b23 hb23=>Aw (fun hc23=>?_) fun hc23=>?_
 ·have hil:i < many:=by omega
  rw [ut hil] at hU
  obtain ⟨left,hlf⟩:∃ q,s.extract a s.size=q:=⟨_,rfl⟩
  rw [hlf] at hU
  have hls:left.size=s.size - a:=by rw [← hlf,pd s has]
  refine Rn [16,5,14,3,0,0] ?_
  refine Xv (v:=Value.string left) rfl (by rw [← hlf]; exact jg (i:=a) u9 rfl rfl (by omega)) (Xc (v:=.tuple #[.int .u64 ((gw (bl left)).1:Nat),Vi ((gw (bl left)).2.1:Nat),Vi (gw (bl left)).2.2]) rfl Tryz.func94 rfl (fun w1 hw1=>AO left w1 (by omega)) ?_)
  obtain ⟨n,z,f,hrk⟩:∃ m z e,gw (bl left)=(m,z,e):=⟨_,_,_,rfl⟩
  rw [hrk]
  dsimp only
  refine Rn [0,20,20,20,1,1,1,2,5,3,0,37,2,12] fun b35 hb35=>Aw (fun hc35=>?_) fun hc35=>?_
  ·have hfz:f≠0:=hc35
   have hfz2:(ed left).2.2=f:=by show (gw (bl left)).2.2=f; rw [hrk]
   rw [hfz2,sH (.inr hfz)] at hU
   have hF:=hup
   rw [← hU,sJ hfz] at hF
   refine Rn [3,0,1,1,2,6,8,15,8,8,15,8] ?_
   refine s7 rfl rfl rfl (fun w' hm=>⟨none,by rw [hF] <;> rfl,by rw [hF]; exact bG,by rw [hF]; exact (fun y hy=>by cases hy),hm.less (List.nil_sublist _) (fun q hq=>by rw [List.mem_singleton.1 hq]; simp)⟩)
  obtain rfl:f=0:=by omega
  obtain ⟨hazs,hz1,hnl,hnx⟩:=in_at has (by rw [hlf]; exact hrk)
  rw [hlf] at hnx
  rw [hnx] at hU
  dsimp only at hU
  refine Rn [23,0,0] ?_
  refine Xv rfl (bg (c:=((a+z:Nat):Int)) rfl rfl (by omega) (by omega)) ?_
  refine Rn [1,2,18,0,0] ?_
  refine Xc (v:=Vi (sF n)) rfl Tryz.func95 rfl (fun w1 hw1=>c_rUns n w1 hnl) ?_
  obtain ⟨d,hd⟩:∃ d,sF n=d:=⟨_,rfl⟩
  have hdin:aj d:=hd▸vR hnl
  rw [hd] at hU ⊢
  refine ac (cs:=[Vi d]) rfl rfl rfl ij cT rP rfl rfl rfl ?_
  intro p43
  refine be (e:=3) [(Bk p43 [Vi d] 3)] (l2:=[]) R (len:=out.length) (xs:=out.map (Value.int .i64)) rfl rfl rfl rfl (by simp) hR ij ap3 rfl rfl (m:=1) (news:=[Vi d]) (fun i hi=>aa (vs:=[Vi d]) (.head _) (by rw [Nat.zero_add]; exact List.getElem?_eq_getElem hi)) rfl Zx (by omega) fun R' hR'=>?_
  have hR':ag 1 R' (out++[d]).length ((out++[d]).map (Value.int .i64)):=by rw [List.length_append,List.map_append]; exact hR'
  refine Rn [1,13,27,17,18,0] ?_
  refine Xv rfl (oV (c:=((i+1:Nat):Int)) rfl rfl (by rw [ct (by omega)]; omega)) ?_
  refine Rn [1,13] ?_
  exact aJ (x:=(i,a,out,R)) (μ:=fun x:Nat×Nat×List Int×ak=>s.size - x.2.1) (i+1,a+z,out++[d],R') ⟨hil,hazs,by dsimp only; rw [List.length_append,List.length_singleton]; omega,fun y hy=>by rcases List.mem_append.1 hy with h | h; (· exact hal y h); rw [List.mem_singleton.1 h]; exact hdin,hR',hU⟩ (by simp only; omega) (by dsimp only; rw [List.length_append,List.length_singleton]; exact Zu) (fun w1 h=>h.less (own':=aA 3 R') (by simp only [List.append_nil]; exact List.sublist_cons_self _ _) (fun _ h=>h))
 rw [sH (.inl (by omega))] at hU
 have hF:=hup
 rw [← hU] at hF
 refine Rn [34,19,19,35,17,5,3,0,0,53,24,2,12] fun b48 hb48=>Aw (fun hc48=>?_) fun hc48=>?_
 ·rw [uu (fun h=>(xB has).1 h (by omega))] at hF
  refine Rn [3,1,1,2,6,8] ?_
  refine s7 rfl rfl rfl (fun w' hm=>⟨none,by rw [hF] <;> rfl,by rw [hF]; exact bG,by rw [hF]; exact (fun y hy=>by cases hy),hm.less (List.nil_sublist _) (fun q hq=>by rw [List.mem_singleton.1 hq]; simp)⟩)
 rw [(xB has).2 (by omega),Av] at hF
 refine Rn [23,0,1,1,2,6] ?_
 exact s7 rfl rfl rfl (fun w' hm=>⟨R,by rw [hF],by rw [hF]; exact hR,by rw [hF]; exact hal,hm.less (.refl _) (fun q hq=>by rw [List.mem_singleton.1 hq]; simp)⟩)
theorem c_rRI (s:ByteArray) (w:World) (hs:s.size≤2000000) :
  Calls Tryz.prog 42 #[.string s] w fun e w'=>∃ v,e=.returned (.tuple #[v,Vi (zv s).2])∧Later w w'∧ab i8 (fun b=>w.heap.size≤b) w' v (zv s).1 :=
 (c_rRIo s w hs).mono fun e w' ⟨R,h1,h2,h3,h4⟩=>⟨_,h1,h4.b,dy (e:=3) h2 rfl h3 h4 (fun q hq=>hq) (fun q hq=>h4.newer (by simp) hq)⟩
end Go.Proofs.YtifekogdhjabaaaGreatDoor

namespace Go.Proofs.YtifekogdhjabaaaGreatDoor
open Go.RowKit Go.PK
theorem vV {x:FM} (w:World) (hX:∀ i v,(cB x)[i]?=some v→w.cell? ⟨x.p,i,none⟩=some v) (hok:aR x.g.s) :
  Calls Tryz.prog 81 #[Pt x.p] w fun e w'=>e=.returned (Vi (x.g.s.free))∧Later w w':=by
 obtain ⟨ok1,ok2,ok3,ok4⟩:=id hok
 refine enter Tryz.func81 rfl Tryz.ntmps81 rfl ?_
 refine Rn [3,1,2,5] ?_
 refine bc 18 ?_
 refine Rn [0,11,4,4] ?_
 refine Xl rfl u3 rfl (an (.head _) trivial (hX 2 _ rfl)) ?_
 refine Rn [0,11,4,4] ?_
 refine Xl rfl u3 rfl (an (.head _) trivial (hX 3 _ rfl)) ?_
 refine Rn [54,0,11,4,4] ?_
 refine Xl rfl u3 rfl (an (.head _) trivial (hX 4 _ rfl)) ?_
 refine Rn [54,1,2,6] ?_
 refine aw rfl rfl (fun w' hm=>⟨?_,hm.b⟩)
 rfl
theorem g_kept {x:FM} (w:World) (hX:∀ i v,(cB x)[i]?=some v→w.cell? ⟨x.p,i,none⟩=some v) (hok:aR x.g.s) :
  Calls Tryz.prog 112 #[Pt x.p] w fun e w'=>e=.returned (Vi (x.g.s.en))∧Later w w':=by
 refine enter Tryz.func112 rfl Tryz.ntmps112 rfl ?_
 refine Rn [3,1,9,0,11,4,4] ?_
 refine Xl rfl u3 rfl (an (.head _) trivial (hX 4 _ rfl)) ?_
 refine Rn [1,2,6] ?_
 refine aw rfl rfl (fun w' hm=>⟨?_,hm.b⟩)
 rfl
theorem g_encA {w:World} {l1 L:List (Nat×Obj)} {ro:List av} {x:FM} (n:Int) (hm:Mem w (l1++(Bk x.p (cB x) 130)::L) ro) (hok:aR x.g.s) (hn:0≤n∧n≤x.g.s.free) :
  Calls Tryz.prog 106 #[Pt x.p,Vi n] w fun e w'=>e=.returned (.tuple #[])∧Mem w' (l1++(Bk x.p (cB { x with g:={ x.g with s:={ x.g.s with en:=x.g.s.en+n } } }) 130)::L) ro:=by
 obtain ⟨ok1,ok2,ok3,ok4⟩:=id hok
 obtain ⟨hn1,hn2⟩:=hn
 try unfold FSt.free at hn2
 refine ay hm Tryz.func106 rfl Tryz.ntmps106 rfl ?_
 refine Rn [18,0,11,4,4,7,0,26,11,4,4] ?_
 refine aG (cs:=cB x) (off:=4) (e:=130) (l2:=L) l1 rfl rfl rfl rfl cT rfl (by show 5≤6; decide) ?_
 refine Ze ?_
 exact tw rfl (fun w' hm'=>⟨rfl,hm'⟩)
theorem g_relA {w:World} {l1 L:List (Nat×Obj)} {ro:List av} {x:FM} (n:Int) (hm:Mem w (l1++(Bk x.p (cB x) 130)::L) ro) (hok:aR x.g.s) (hn:0≤n∧n≤x.g.s.en) :
  Calls Tryz.prog 113 #[Pt x.p,Vi n] w fun e w'=>e=.returned (.tuple #[])∧Mem w' (l1++(Bk x.p (cB { x with g:={ x.g with s:={ x.g.s with en:=x.g.s.en - n } } }) 130)::L) ro:=by
 obtain ⟨ok1,ok2,ok3,ok4⟩:=id hok
 obtain ⟨hn1,hn2⟩:=hn
 try unfold FSt.free at hn2
 refine ay hm Tryz.func113 rfl Tryz.ntmps113 rfl ?_
 refine Rn [18,0,11,4,4,7,0,54,11,4,4] ?_
 refine aG (cs:=cB x) (off:=4) (e:=130) (l2:=L) l1 rfl rfl rfl rfl cT rfl (by show 5≤6; decide) ?_
 refine Ze ?_
 exact tw rfl (fun w' hm'=>⟨rfl,hm'⟩)
theorem g_spdA {w:World} {l1 L:List (Nat×Obj)} {ro:List av} {x:FM} (n:Int) (hm:Mem w (l1++(Bk x.p (cB x) 130)::L) ro) (hok:aR x.g.s) (hn:0≤n∧n≤x.g.s.free) :
  Calls Tryz.prog 118 #[Pt x.p,Vi n] w fun e w'=>e=.returned (.tuple #[])∧Mem w' (l1++(Bk x.p (cB { x with g:={ x.g with s:={ x.g.s with sp:=x.g.s.sp+n } } }) 130)::L) ro:=by
 obtain ⟨ok1,ok2,ok3,ok4⟩:=id hok
 obtain ⟨hn1,hn2⟩:=hn
 try unfold FSt.free at hn2
 refine ay hm Tryz.func118 rfl Tryz.ntmps118 rfl ?_
 refine Rn [18,0,11,4,4,7,0,26,11,4,4] ?_
 refine aG (cs:=cB x) (off:=3) (e:=130) (l2:=L) l1 rfl rfl rfl rfl cT rfl (by show 4≤6; decide) ?_
 refine Ze ?_
 exact tw rfl (fun w' hm'=>⟨rfl,hm'⟩)
theorem vW {w:World} {l1 L:List (Nat×Obj)} {ro:List av} {mF pF:Nat} {esF:Array MapEntry} {ckF:Nat} {money:Int} {Φ:Value→Option Value} {x:FM} {id:Int} (hm:Mem w (l1++(Bk x.p (cB x) 130)::L) ro) (hF:MapF Tryz.prog 3 esF Φ) (hmF:(mF,Obj.map esF ckF)∈l1++(Bk x.p (cB x) 130)::L) (hpF:(Bk pF (bP mF money) 125)∈l1++(Bk x.p (cB x) 130)::L) (hlk:Φ (Vi id)=some (Pt x.p)) (hid:aj id) (hok:aR x.g.s) (n:Int) :
  Calls Tryz.prog 105 #[Pt pF,Vi id,Vi n,.agg #[.func (.func 81) #[] #[],.func (.func 106) #[] #[]]] w fun e w'=>e=.returned (Vi (bJ x.g.s n).1)∧∃ u:Unit,True∧Mem w' (l1++(Bk x.p (cB { x with g:={ x.g with s:=(bJ x.g.s n).2 } }) 130)::L) ro:=by
 refine ay hm Tryz.func105 rfl Tryz.ntmps105 rfl ?_
 refine Rn [3,36,1,2,5,3,0,52,2,10] fun p7=>Aw (fun hc11=>?_) fun hc11=>?_
 ·cases hc11
 refine Rn [23,0,11,4] ?_
 refine Xl rfl dw rfl (aa (vs:=bP mF money) (.tail _ hpF) rfl) (Xm ?_)
 refine Xv (v:=Pt x.p) rfl (iG dw (Maps.int_keyed u3) dZ rfl rfl (Maps.keyOf_int_mk u3 (cG hid)) (.tail _ hmF) hF (by rw [hlk]; rfl)) ?_
 refine Rn [1,2,5,14,3,0,52,1,2,10] (Aw (fun hc18=>?_) fun hc18=>?_)
 ·cases hc18
 refine Rn [3,0,24,1,2,12] fun b23 hb23=>Aw (fun hc21=>?_) fun hc21=>?_
 ·refine Rn [3,1,2,6,15,8] ?_
  refine aw rfl rfl (fun w' hm'=>⟨?_,(),trivial,?_⟩)
  ·unfold bJ; rw [if_pos (by omega)]
  unfold bJ; rw [if_pos (by omega)]; exact hm'.less Ls (fun _ h=>h)
 refine Rn [3,0,4,51,0] ?_
 refine nL (cap:=#[]) rfl rfl rfl rfl Tryz.func81 Zk rfl (fun w1 hw1=>by simpa using vV (x:=x) w1 (fun i v hv=>aa (vs:=cB x) (.tail _ (List.mem_append_right _ (.head _))) hv w1 hw1) hok) ?_
 refine Rn [60,1,2,12] fun b30 hb30=>Aw (fun hc24=>?_) fun hc24=>?_
 ·refine Rn [3,1,2,6,15,8] ?_
  refine aw rfl rfl (fun w' hm'=>⟨?_,(),trivial,?_⟩)
  ·unfold bJ; rw [if_neg (by omega),if_pos (by omega)]
  unfold bJ; rw [if_neg (by omega),if_pos (by omega)]; exact hm'.less Ls (fun _ h=>h)
 refine Rn [45,27,17,3,4,51,0,0] ?_
 refine rz (τ:=Unit) (v:=Value.tuple #[]) (fst:=#[]) (cap:=#[]) (fun _=>True) (fun _=>(Bk p7 [Value.func (.func 81) #[] #[],.func (.func 106) #[] #[]] 165)::(l1++(Bk x.p (cB { x with g:={ x.g with s:={ x.g.s with en:=x.g.s.en+n } } }) 130)::L)) rfl rfl rfl Tryz.func106 Zk rfl (fun w1 hw1=>by simpa using g_encA (l1:=(Bk p7 [Value.func (.func 81) #[] #[],.func (.func 106) #[] #[]] 165)::l1) n hw1 hok (by omega)) fun _ _=>?_
 refine Rn [9,1,2,6] ?_
 refine aw rfl rfl (fun w' hm'=>⟨?_,(),trivial,?_⟩)
 ·unfold bJ; rw [if_neg (by omega),if_neg (by omega)]
 unfold bJ; rw [if_neg (by omega),if_neg (by omega)]; exact hm'.less Ls (fun _ h=>h)
theorem uz {w:World} {own:List (Nat×Obj)} {ro:List av} {mF pF:Nat} {esF:Array MapEntry} {ckF:Nat} {money:Int} {Φ:Value→Option Value} {id:Int} (hm:Mem w own ro) (hF:MapF Tryz.prog 3 esF Φ) (hmF:(mF,Obj.map esF ckF)∈own) (hpF:(Bk pF (bP mF money) 125)∈own) (hlk:Φ (Vi id)=none) (hid:aj id) (n:Int) :
  Calls Tryz.prog 105 #[Pt pF,Vi id,Vi n,.agg #[.func (.func 81) #[] #[],.func (.func 106) #[] #[]]] w fun e w'=>e=.returned (Vi 32)∧Mem w' own ro:=by
 refine ay hm Tryz.func105 rfl Tryz.ntmps105 rfl ?_
 refine Rn [3,36,1,2,5,3,0,52,2,10] fun p7=>Aw (fun hc11=>?_) fun hc11=>?_
 ·cases hc11
 refine Rn [23,0,11,4] ?_
 refine Xl rfl dw rfl (aa (vs:=bP mF money) (.tail _ hpF) rfl) (Xm ?_)
 refine Xv (v:=Value.pointer none) rfl (iG dw (Maps.int_keyed u3) dZ rfl rfl (Maps.keyOf_int_mk u3 (cG hid)) (.tail _ hmF) hF (by rw [hlk]; rfl)) ?_
 refine Rn [1,2,5,14,3,0,75,1,2,10] (Aw (fun hc18=>?_) fun hc18=>?_)
 ·refine Rn [3,1,2,6,15,8] ?_
  exact aw rfl rfl (fun w' hm'=>⟨rfl,hm'.less Ls (fun _ h=>h)⟩)
 cases hc18
theorem g_enc1 {w:World} {l1 L:List (Nat×Obj)} {ro:List av} {mF pF:Nat} {esF:Array MapEntry} {ckF:Nat} {money:Int} {Φ:Value→Option Value} {x:FM} {id:Int} (hm:Mem w (l1++(Bk x.p (cB x) 130)::L) ro) (hF:MapF Tryz.prog 3 esF Φ) (hmF:(mF,Obj.map esF ckF)∈l1++(Bk x.p (cB x) 130)::L) (hpF:(Bk pF (bP mF money) 125)∈l1++(Bk x.p (cB x) 130)::L) (hlk:Φ (Vi id)=some (Pt x.p)) (hid:aj id) (hok:aR x.g.s) (n:Int) :
  Calls Tryz.prog 52 #[Pt pF,Vi id,Vi n] w fun e w'=>e=.returned (Vi (bJ x.g.s n).1)∧∃ u:Unit,True∧Mem w' (l1++(Bk x.p (cB { x with g:={ x.g with s:=(bJ x.g.s n).2 } }) 130)::L) ro:=by
 refine ay hm Tryz.func52 rfl Tryz.ntmps52 rfl ?_
 refine Rn [3,1,9,0,0,0] ?_
 refine Xv rfl (aH (places:=[(0,1),(1,1)]) tO mV Zk rfl rfl) ?_
 refine aI (τ:=Unit) (v:=Vi (bJ x.g.s n).1) (fun _=>True) (fun _=>l1++(Bk x.p (cB { x with g:={ x.g with s:=(bJ x.g.s n).2 } }) 130)::L) rfl rfl Tryz.func105 Zk rfl (fun w1 hw1=>vW hw1 hF hmF hpF hlk hid hok n) fun _ _=>?_
 refine Rn [1,2,6] ?_
 exact aw rfl rfl (fun w' hm'=>⟨rfl,(),trivial,hm'⟩)
theorem g_encM {w:World} {own:List (Nat×Obj)} {ro:List av} {mF pF:Nat} {esF:Array MapEntry} {ckF:Nat} {money:Int} {Φ:Value→Option Value} {id:Int} (hm:Mem w own ro) (hF:MapF Tryz.prog 3 esF Φ) (hmF:(mF,Obj.map esF ckF)∈own) (hpF:(Bk pF (bP mF money) 125)∈own) (hlk:Φ (Vi id)=none) (hid:aj id) (n:Int) :
  Calls Tryz.prog 52 #[Pt pF,Vi id,Vi n] w fun e w'=>e=.returned (Vi 32)∧Mem w' own ro:=by
 refine ay hm Tryz.func52 rfl Tryz.ntmps52 rfl ?_
 refine Rn [3,1,9,0,0,0] ?_
 refine Xv rfl (aH (places:=[(0,1),(1,1)]) tO mV Zk rfl rfl) ?_
 refine aI (τ:=Unit) (v:=Vi 32) (fun _=>True) (fun _=>own) rfl rfl Tryz.func105 Zk rfl (fun w1 hw1=>(uz hw1 hF hmF hpF hlk hid n).mono fun e w2 h=>⟨h.1,(),trivial,h.2⟩) fun _ _=>?_
 refine Rn [1,2,6] ?_
 exact aw rfl rfl (fun w' hm'=>⟨rfl,hm'⟩)
theorem g_enc {w:World} {l1 L:List (Nat×Obj)} {ro:List av} {mF pF:Nat} {esF:Array MapEntry} {ckF:Nat} {money:Int} {ms:List FM} (hm:Mem w (l1++(FB 130 ms++L)) ro) (hF:MapF Tryz.prog 3 esF (cC ms)) (hmF:(mF,Obj.map esF ckF)∈l1++(FB 130 ms++L)) (hpF:(Bk pF (bP mF money) 125)∈l1++(FB 130 ms++L)) (hok:∀ f∈bW ms,aR f.s) (id:Int) (hid:aj id) (n:Int) :
  Calls Tryz.prog 52 #[Pt pF,Vi id,Vi n] w fun e w'=>e=.returned (Vi (ap bJ (bW ms) id n).1)∧∃ q:List FM,(bW q=(ap bJ (bW ms) id n).2∧cC q=cC ms)∧Mem w' (l1++(FB 130 q++L)) ro:=by
 unfold ap
 rw [rc]
 cases hl:iz ms id with
 | none =>
  exact (g_encM hm hF hmF hpF (show (iz ms id).map _=none by rw [hl]; rfl) hid n).mono fun e w2 h=>⟨h.1,ms,⟨rfl,rfl⟩,h.2⟩
 | some x =>
  obtain ⟨a,c,h1,h2,h3⟩:=eM hl
  have e1:l1++(FB 130 ms++L)=(l1++FB 130 a)++(Bk x.p (cB x) 130)::(FB 130 c++L):=by rw [h1,lg]; simp
  have hx:aR x.g.s:=hok x.g (List.mem_map_of_mem (by rw [h1]; simp))
  have h:=g_enc1 (hm.to e1) hF (by rw [← e1]; exact hmF) (by rw [← e1]; exact hpF) (show (iz ms id).map _=_ by rw [hl]; rfl) hid hx n
  refine h.mono fun e w2 ⟨k1,_,_,k2⟩=>⟨k1,lZ ms id (bJ x.g.s n).2,⟨sM ms id _,sN ms id _⟩,k2.to ?_⟩
  rw [h3,lg]; simp
theorem vX {w:World} {l1 L:List (Nat×Obj)} {ro:List av} {mF pF:Nat} {esF:Array MapEntry} {ckF:Nat} {money:Int} {Φ:Value→Option Value} {x:FM} {id:Int} (hm:Mem w (l1++(Bk x.p (cB x) 130)::L) ro) (hF:MapF Tryz.prog 3 esF Φ) (hmF:(mF,Obj.map esF ckF)∈l1++(Bk x.p (cB x) 130)::L) (hpF:(Bk pF (bP mF money) 125)∈l1++(Bk x.p (cB x) 130)::L) (hlk:Φ (Vi id)=some (Pt x.p)) (hid:aj id) (hok:aR x.g.s) (n:Int) :
  Calls Tryz.prog 105 #[Pt pF,Vi id,Vi n,.agg #[.func (.func 112) #[] #[],.func (.func 113) #[] #[]]] w fun e w'=>e=.returned (Vi (aS x.g.s n).1)∧∃ u:Unit,True∧Mem w' (l1++(Bk x.p (cB { x with g:={ x.g with s:=(aS x.g.s n).2 } }) 130)::L) ro:=by
 refine ay hm Tryz.func105 rfl Tryz.ntmps105 rfl ?_
 refine Rn [3,36,1,2,5,3,0,52,2,10] fun p7=>Aw (fun hc11=>?_) fun hc11=>?_
 ·cases hc11
 refine Rn [23,0,11,4] ?_
 refine Xl rfl dw rfl (aa (vs:=bP mF money) (.tail _ hpF) rfl) (Xm ?_)
 refine Xv (v:=Pt x.p) rfl (iG dw (Maps.int_keyed u3) dZ rfl rfl (Maps.keyOf_int_mk u3 (cG hid)) (.tail _ hmF) hF (by rw [hlk]; rfl)) ?_
 refine Rn [1,2,5,14,3,0,52,1,2,10] (Aw (fun hc18=>?_) fun hc18=>?_)
 ·cases hc18
 refine Rn [3,0,24,1,2,12] fun b23 hb23=>Aw (fun hc21=>?_) fun hc21=>?_
 ·refine Rn [3,1,2,6,15,8] ?_
  refine aw rfl rfl (fun w' hm'=>⟨?_,(),trivial,?_⟩)
  ·unfold aS; rw [if_pos (by omega)]
  unfold aS; rw [if_pos (by omega)]; exact hm'.less Ls (fun _ h=>h)
 refine Rn [3,0,4,51,0] ?_
 refine nL (cap:=#[]) rfl rfl rfl rfl Tryz.func112 Zk rfl (fun w1 hw1=>by simpa using g_kept (x:=x) w1 (fun i v hv=>aa (vs:=cB x) (.tail _ (List.mem_append_right _ (.head _))) hv w1 hw1) hok) ?_
 refine Rn [60,1,2,12] fun b30 hb30=>Aw (fun hc24=>?_) fun hc24=>?_
 ·refine Rn [3,1,2,6,15,8] ?_
  refine aw rfl rfl (fun w' hm'=>⟨?_,(),trivial,?_⟩)
  ·unfold aS; rw [if_neg (by omega),if_pos (by omega)]
  unfold aS; rw [if_neg (by omega),if_pos (by omega)]; exact hm'.less Ls (fun _ h=>h)
 refine Rn [45,27,17,3,4,51,0,0] ?_
 refine rz (τ:=Unit) (v:=Value.tuple #[]) (fst:=#[]) (cap:=#[]) (fun _=>True) (fun _=>(Bk p7 [Value.func (.func 112) #[] #[],.func (.func 113) #[] #[]] 165)::(l1++(Bk x.p (cB { x with g:={ x.g with s:={ x.g.s with en:=x.g.s.en - n } } }) 130)::L)) rfl rfl rfl Tryz.func113 Zk rfl (fun w1 hw1=>by simpa using g_relA (l1:=(Bk p7 [Value.func (.func 112) #[] #[],.func (.func 113) #[] #[]] 165)::l1) n hw1 hok (by omega)) fun _ _=>?_
 refine Rn [9,1,2,6] ?_
 refine aw rfl rfl (fun w' hm'=>⟨?_,(),trivial,?_⟩)
 ·unfold aS; rw [if_neg (by omega),if_neg (by omega)]
 unfold aS; rw [if_neg (by omega),if_neg (by omega)]; exact hm'.less Ls (fun _ h=>h)
theorem uA {w:World} {own:List (Nat×Obj)} {ro:List av} {mF pF:Nat} {esF:Array MapEntry} {ckF:Nat} {money:Int} {Φ:Value→Option Value} {id:Int} (hm:Mem w own ro) (hF:MapF Tryz.prog 3 esF Φ) (hmF:(mF,Obj.map esF ckF)∈own) (hpF:(Bk pF (bP mF money) 125)∈own) (hlk:Φ (Vi id)=none) (hid:aj id) (n:Int) :
  Calls Tryz.prog 105 #[Pt pF,Vi id,Vi n,.agg #[.func (.func 112) #[] #[],.func (.func 113) #[] #[]]] w fun e w'=>e=.returned (Vi 32)∧Mem w' own ro:=by
 refine ay hm Tryz.func105 rfl Tryz.ntmps105 rfl ?_
 refine Rn [3,36,1,2,5,3,0,52,2,10] fun p7=>Aw (fun hc11=>?_) fun hc11=>?_
 ·cases hc11
 refine Rn [23,0,11,4] ?_
 refine Xl rfl dw rfl (aa (vs:=bP mF money) (.tail _ hpF) rfl) (Xm ?_)
 refine Xv (v:=Value.pointer none) rfl (iG dw (Maps.int_keyed u3) dZ rfl rfl (Maps.keyOf_int_mk u3 (cG hid)) (.tail _ hmF) hF (by rw [hlk]; rfl)) ?_
 refine Rn [1,2,5,14,3,0,75,1,2,10] (Aw (fun hc18=>?_) fun hc18=>?_)
 ·refine Rn [3,1,2,6,15,8] ?_
  exact aw rfl rfl (fun w' hm'=>⟨rfl,hm'.less Ls (fun _ h=>h)⟩)
 cases hc18
theorem g_rel1 {w:World} {l1 L:List (Nat×Obj)} {ro:List av} {mF pF:Nat} {esF:Array MapEntry} {ckF:Nat} {money:Int} {Φ:Value→Option Value} {x:FM} {id:Int} (hm:Mem w (l1++(Bk x.p (cB x) 130)::L) ro) (hF:MapF Tryz.prog 3 esF Φ) (hmF:(mF,Obj.map esF ckF)∈l1++(Bk x.p (cB x) 130)::L) (hpF:(Bk pF (bP mF money) 125)∈l1++(Bk x.p (cB x) 130)::L) (hlk:Φ (Vi id)=some (Pt x.p)) (hid:aj id) (hok:aR x.g.s) (n:Int) :
  Calls Tryz.prog 58 #[Pt pF,Vi id,Vi n] w fun e w'=>e=.returned (Vi (aS x.g.s n).1)∧∃ u:Unit,True∧Mem w' (l1++(Bk x.p (cB { x with g:={ x.g with s:=(aS x.g.s n).2 } }) 130)::L) ro:=by
 refine ay hm Tryz.func58 rfl Tryz.ntmps58 rfl ?_
 refine Rn [3,1,9,1,9,0,0,0,0] ?_
 refine Xv rfl (aH (places:=[(0,1),(1,1)]) tO mV Zk rfl rfl) ?_
 refine aI (τ:=Unit) (v:=Vi (aS x.g.s n).1) (fun _=>True) (fun _=>l1++(Bk x.p (cB { x with g:={ x.g with s:=(aS x.g.s n).2 } }) 130)::L) rfl rfl Tryz.func105 Zk rfl (fun w1 hw1=>vX hw1 hF hmF hpF hlk hid hok n) fun _ _=>?_
 refine Rn [1,2,6] ?_
 exact aw rfl rfl (fun w' hm'=>⟨rfl,(),trivial,hm'⟩)
theorem g_relM {w:World} {own:List (Nat×Obj)} {ro:List av} {mF pF:Nat} {esF:Array MapEntry} {ckF:Nat} {money:Int} {Φ:Value→Option Value} {id:Int} (hm:Mem w own ro) (hF:MapF Tryz.prog 3 esF Φ) (hmF:(mF,Obj.map esF ckF)∈own) (hpF:(Bk pF (bP mF money) 125)∈own) (hlk:Φ (Vi id)=none) (hid:aj id) (n:Int) :
  Calls Tryz.prog 58 #[Pt pF,Vi id,Vi n] w fun e w'=>e=.returned (Vi 32)∧Mem w' own ro:=by
 refine ay hm Tryz.func58 rfl Tryz.ntmps58 rfl ?_
 refine Rn [3,1,9,1,9,0,0,0,0] ?_
 refine Xv rfl (aH (places:=[(0,1),(1,1)]) tO mV Zk rfl rfl) ?_
 refine aI (τ:=Unit) (v:=Vi 32) (fun _=>True) (fun _=>own) rfl rfl Tryz.func105 Zk rfl (fun w1 hw1=>(uA hw1 hF hmF hpF hlk hid n).mono fun e w2 h=>⟨h.1,(),trivial,h.2⟩) fun _ _=>?_
 refine Rn [1,2,6] ?_
 exact aw rfl rfl (fun w' hm'=>⟨rfl,hm'⟩)
theorem g_rel {w:World} {l1 L:List (Nat×Obj)} {ro:List av} {mF pF:Nat} {esF:Array MapEntry} {ckF:Nat} {money:Int} {ms:List FM} (hm:Mem w (l1++(FB 130 ms++L)) ro) (hF:MapF Tryz.prog 3 esF (cC ms)) (hmF:(mF,Obj.map esF ckF)∈l1++(FB 130 ms++L)) (hpF:(Bk pF (bP mF money) 125)∈l1++(FB 130 ms++L)) (hok:∀ f∈bW ms,aR f.s) (id:Int) (hid:aj id) (n:Int) :
  Calls Tryz.prog 58 #[Pt pF,Vi id,Vi n] w fun e w'=>e=.returned (Vi (ap aS (bW ms) id n).1)∧∃ q:List FM,(bW q=(ap aS (bW ms) id n).2∧cC q=cC ms)∧Mem w' (l1++(FB 130 q++L)) ro:=by
 unfold ap
 rw [rc]
 cases hl:iz ms id with
 | none =>
  exact (g_relM hm hF hmF hpF (show (iz ms id).map _=none by rw [hl]; rfl) hid n).mono fun e w2 h=>⟨h.1,ms,⟨rfl,rfl⟩,h.2⟩
 | some x =>
  obtain ⟨a,c,h1,h2,h3⟩:=eM hl
  have e1:l1++(FB 130 ms++L)=(l1++FB 130 a)++(Bk x.p (cB x) 130)::(FB 130 c++L):=by rw [h1,lg]; simp
  have hx:aR x.g.s:=hok x.g (List.mem_map_of_mem (by rw [h1]; simp))
  have h:=g_rel1 (hm.to e1) hF (by rw [← e1]; exact hmF) (by rw [← e1]; exact hpF) (show (iz ms id).map _=_ by rw [hl]; rfl) hid hx n
  refine h.mono fun e w2 ⟨k1,_,_,k2⟩=>⟨k1,lZ ms id (aS x.g.s n).2,⟨sM ms id _,sN ms id _⟩,k2.to ?_⟩
  rw [h3,lg]; simp
theorem vY {w:World} {l1 L:List (Nat×Obj)} {ro:List av} {mF pF:Nat} {esF:Array MapEntry} {ckF:Nat} {money:Int} {Φ:Value→Option Value} {x:FM} {id:Int} (hm:Mem w (l1++(Bk x.p (cB x) 130)::L) ro) (hF:MapF Tryz.prog 3 esF Φ) (hmF:(mF,Obj.map esF ckF)∈l1++(Bk x.p (cB x) 130)::L) (hpF:(Bk pF (bP mF money) 125)∈l1++(Bk x.p (cB x) 130)::L) (hlk:Φ (Vi id)=some (Pt x.p)) (hid:aj id) (hok:aR x.g.s) (n:Int) :
  Calls Tryz.prog 105 #[Pt pF,Vi id,Vi n,.agg #[.func (.func 81) #[] #[],.func (.func 118) #[] #[]]] w fun e w'=>e=.returned (Vi (bK x.g.s n).1)∧∃ u:Unit,True∧Mem w' (l1++(Bk x.p (cB { x with g:={ x.g with s:=(bK x.g.s n).2 } }) 130)::L) ro:=by
 refine ay hm Tryz.func105 rfl Tryz.ntmps105 rfl ?_
 refine Rn [3,36,1,2,5,3,0,52,2,10] fun p7=>Aw (fun hc11=>?_) fun hc11=>?_
 ·cases hc11
 refine Rn [23,0,11,4] ?_
 refine Xl rfl dw rfl (aa (vs:=bP mF money) (.tail _ hpF) rfl) (Xm ?_)
 refine Xv (v:=Pt x.p) rfl (iG dw (Maps.int_keyed u3) dZ rfl rfl (Maps.keyOf_int_mk u3 (cG hid)) (.tail _ hmF) hF (by rw [hlk]; rfl)) ?_
 refine Rn [1,2,5,14,3,0,52,1,2,10] (Aw (fun hc18=>?_) fun hc18=>?_)
 ·cases hc18
 refine Rn [3,0,24,1,2,12] fun b23 hb23=>Aw (fun hc21=>?_) fun hc21=>?_
 ·refine Rn [3,1,2,6,15,8] ?_
  refine aw rfl rfl (fun w' hm'=>⟨?_,(),trivial,?_⟩)
  ·unfold bK; rw [if_pos (by omega)]
  unfold bK; rw [if_pos (by omega)]; exact hm'.less Ls (fun _ h=>h)
 refine Rn [3,0,4,51,0] ?_
 refine nL (cap:=#[]) rfl rfl rfl rfl Tryz.func81 Zk rfl (fun w1 hw1=>by simpa using vV (x:=x) w1 (fun i v hv=>aa (vs:=cB x) (.tail _ (List.mem_append_right _ (.head _))) hv w1 hw1) hok) ?_
 refine Rn [60,1,2,12] fun b30 hb30=>Aw (fun hc24=>?_) fun hc24=>?_
 ·refine Rn [3,1,2,6,15,8] ?_
  refine aw rfl rfl (fun w' hm'=>⟨?_,(),trivial,?_⟩)
  ·unfold bK; rw [if_neg (by omega),if_pos (by omega)]
  unfold bK; rw [if_neg (by omega),if_pos (by omega)]; exact hm'.less Ls (fun _ h=>h)
 refine Rn [45,27,17,3,4,51,0,0] ?_
 refine rz (τ:=Unit) (v:=Value.tuple #[]) (fst:=#[]) (cap:=#[]) (fun _=>True) (fun _=>(Bk p7 [Value.func (.func 81) #[] #[],.func (.func 118) #[] #[]] 165)::(l1++(Bk x.p (cB { x with g:={ x.g with s:={ x.g.s with sp:=x.g.s.sp+n } } }) 130)::L)) rfl rfl rfl Tryz.func118 Zk rfl (fun w1 hw1=>by simpa using g_spdA (l1:=(Bk p7 [Value.func (.func 81) #[] #[],.func (.func 118) #[] #[]] 165)::l1) n hw1 hok (by omega)) fun _ _=>?_
 refine Rn [9,1,2,6] ?_
 refine aw rfl rfl (fun w' hm'=>⟨?_,(),trivial,?_⟩)
 ·unfold bK; rw [if_neg (by omega),if_neg (by omega)]
 unfold bK; rw [if_neg (by omega),if_neg (by omega)]; exact hm'.less Ls (fun _ h=>h)
theorem uB {w:World} {own:List (Nat×Obj)} {ro:List av} {mF pF:Nat} {esF:Array MapEntry} {ckF:Nat} {money:Int} {Φ:Value→Option Value} {id:Int} (hm:Mem w own ro) (hF:MapF Tryz.prog 3 esF Φ) (hmF:(mF,Obj.map esF ckF)∈own) (hpF:(Bk pF (bP mF money) 125)∈own) (hlk:Φ (Vi id)=none) (hid:aj id) (n:Int) :
  Calls Tryz.prog 105 #[Pt pF,Vi id,Vi n,.agg #[.func (.func 81) #[] #[],.func (.func 118) #[] #[]]] w fun e w'=>e=.returned (Vi 32)∧Mem w' own ro:=by
 refine ay hm Tryz.func105 rfl Tryz.ntmps105 rfl ?_
 refine Rn [3,36,1,2,5,3,0,52,2,10] fun p7=>Aw (fun hc11=>?_) fun hc11=>?_
 ·cases hc11
 refine Rn [23,0,11,4] ?_
 refine Xl rfl dw rfl (aa (vs:=bP mF money) (.tail _ hpF) rfl) (Xm ?_)
 refine Xv (v:=Value.pointer none) rfl (iG dw (Maps.int_keyed u3) dZ rfl rfl (Maps.keyOf_int_mk u3 (cG hid)) (.tail _ hmF) hF (by rw [hlk]; rfl)) ?_
 refine Rn [1,2,5,14,3,0,75,1,2,10] (Aw (fun hc18=>?_) fun hc18=>?_)
 ·refine Rn [3,1,2,6,15,8] ?_
  exact aw rfl rfl (fun w' hm'=>⟨rfl,hm'.less Ls (fun _ h=>h)⟩)
 cases hc18
theorem g_spd1 {w:World} {l1 L:List (Nat×Obj)} {ro:List av} {mF pF:Nat} {esF:Array MapEntry} {ckF:Nat} {money:Int} {Φ:Value→Option Value} {x:FM} {id:Int} (hm:Mem w (l1++(Bk x.p (cB x) 130)::L) ro) (hF:MapF Tryz.prog 3 esF Φ) (hmF:(mF,Obj.map esF ckF)∈l1++(Bk x.p (cB x) 130)::L) (hpF:(Bk pF (bP mF money) 125)∈l1++(Bk x.p (cB x) 130)::L) (hlk:Φ (Vi id)=some (Pt x.p)) (hid:aj id) (hok:aR x.g.s) (n:Int) :
  Calls Tryz.prog 63 #[Pt pF,Vi id,Vi n] w fun e w'=>e=.returned (Vi (bK x.g.s n).1)∧∃ u:Unit,True∧Mem w' (l1++(Bk x.p (cB { x with g:={ x.g with s:=(bK x.g.s n).2 } }) 130)::L) ro:=by
 refine ay hm Tryz.func63 rfl Tryz.ntmps63 rfl ?_
 refine Rn [3,1,9,0,0,0] ?_
 refine Xv rfl (aH (places:=[(0,1),(1,1)]) tO mV Zk rfl rfl) ?_
 refine aI (τ:=Unit) (v:=Vi (bK x.g.s n).1) (fun _=>True) (fun _=>l1++(Bk x.p (cB { x with g:={ x.g with s:=(bK x.g.s n).2 } }) 130)::L) rfl rfl Tryz.func105 Zk rfl (fun w1 hw1=>vY hw1 hF hmF hpF hlk hid hok n) fun _ _=>?_
 refine Rn [1,2,6] ?_
 exact aw rfl rfl (fun w' hm'=>⟨rfl,(),trivial,hm'⟩)
theorem g_spdM {w:World} {own:List (Nat×Obj)} {ro:List av} {mF pF:Nat} {esF:Array MapEntry} {ckF:Nat} {money:Int} {Φ:Value→Option Value} {id:Int} (hm:Mem w own ro) (hF:MapF Tryz.prog 3 esF Φ) (hmF:(mF,Obj.map esF ckF)∈own) (hpF:(Bk pF (bP mF money) 125)∈own) (hlk:Φ (Vi id)=none) (hid:aj id) (n:Int) :
  Calls Tryz.prog 63 #[Pt pF,Vi id,Vi n] w fun e w'=>e=.returned (Vi 32)∧Mem w' own ro:=by
 refine ay hm Tryz.func63 rfl Tryz.ntmps63 rfl ?_
 refine Rn [3,1,9,0,0,0] ?_
 refine Xv rfl (aH (places:=[(0,1),(1,1)]) tO mV Zk rfl rfl) ?_
 refine aI (τ:=Unit) (v:=Vi 32) (fun _=>True) (fun _=>own) rfl rfl Tryz.func105 Zk rfl (fun w1 hw1=>(uB hw1 hF hmF hpF hlk hid n).mono fun e w2 h=>⟨h.1,(),trivial,h.2⟩) fun _ _=>?_
 refine Rn [1,2,6] ?_
 exact aw rfl rfl (fun w' hm'=>⟨rfl,hm'⟩)
theorem g_spd {w:World} {l1 L:List (Nat×Obj)} {ro:List av} {mF pF:Nat} {esF:Array MapEntry} {ckF:Nat} {money:Int} {ms:List FM} (hm:Mem w (l1++(FB 130 ms++L)) ro) (hF:MapF Tryz.prog 3 esF (cC ms)) (hmF:(mF,Obj.map esF ckF)∈l1++(FB 130 ms++L)) (hpF:(Bk pF (bP mF money) 125)∈l1++(FB 130 ms++L)) (hok:∀ f∈bW ms,aR f.s) (id:Int) (hid:aj id) (n:Int) :
  Calls Tryz.prog 63 #[Pt pF,Vi id,Vi n] w fun e w'=>e=.returned (Vi (ap bK (bW ms) id n).1)∧∃ q:List FM,(bW q=(ap bK (bW ms) id n).2∧cC q=cC ms)∧Mem w' (l1++(FB 130 q++L)) ro:=by
 unfold ap
 rw [rc]
 cases hl:iz ms id with
 | none =>
  exact (g_spdM hm hF hmF hpF (show (iz ms id).map _=none by rw [hl]; rfl) hid n).mono fun e w2 h=>⟨h.1,ms,⟨rfl,rfl⟩,h.2⟩
 | some x =>
  obtain ⟨a,c,h1,h2,h3⟩:=eM hl
  have e1:l1++(FB 130 ms++L)=(l1++FB 130 a)++(Bk x.p (cB x) 130)::(FB 130 c++L):=by rw [h1,lg]; simp
  have hx:aR x.g.s:=hok x.g (List.mem_map_of_mem (by rw [h1]; simp))
  have h:=g_spd1 (hm.to e1) hF (by rw [← e1]; exact hmF) (by rw [← e1]; exact hpF) (show (iz ms id).map _=_ by rw [hl]; rfl) hid hx n
  refine h.mono fun e w2 ⟨k1,_,_,k2⟩=>⟨k1,lZ ms id (bK x.g.s n).2,⟨sM ms id _,sN ms id _⟩,k2.to ?_⟩
  rw [h3,lg]; simp
theorem xM {w:World} {mF pF:Nat} {esF:Array MapEntry} {ckF:Nat} {Φ:Value→Option Value} {id:Int} (hF:MapF Tryz.prog 3 esF Φ) (h1:w.cell? ⟨pF,0,none⟩=some (.map (some mF))) (h2:w.heap[mF]?=some (.map esF ckF)) (hid:aj id) {x:FM} (hlk:Φ (Vi id)=some (Pt x.p)) (hX:∀ i v,(cB x)[i]?=some v→w.cell? ⟨x.p,i,none⟩=some v) :
  Calls Tryz.prog 30 #[Pt pF,Vi id] w fun e w'=>e=.returned (.tuple #[.agg ((cB x).take 5).toArray,.bool true])∧Later w w':=by
 refine enter Tryz.func30 rfl Tryz.ntmps30 rfl ?_
 refine Rn [3,28,1,2,5,3,0,62,0,21,59,22] fun p4 b7 hb7=>?_
 refine Xi rfl rfl rfl (fun hg0=>by subst hg0; (try simp only [Qy]); exact aW dw rfl rfl (an (.head _) trivial h1)) (Xg ?_)
 refine fV [] rfl rfl rfl rfl rfl (v:=Pt x.p) (fun hg=>by obtain ⟨hg0,_⟩:=hg; subst hg0; (try simp only [Qy]); exact cw dw (Maps.int_keyed u3) dZ rfl rfl (Maps.keyOf_int_mk u3 (cG hid)) (ju (.head _) trivial h2) hF (by rw [hlk]; rfl)) ?_
 refine fp [] rfl rfl rfl rfl rfl (c:=false) (fun hg=>by obtain ⟨hg0,_⟩:=hg; subst hg0; (try simp only [Qy]); exact gC (o:=some ⟨x.p,0,none⟩) rS rfl rfl) fun b15 hb15=>?_
 refine Rn [25,2,10] fun b16 hb16=>Aw (fun hc16=>?_) fun hc16=>?_
 ·exfalso
  rw [hb16,hb15,hb7] at hc16
  revert hc16; simp
 simp only [hb16,Qz,ne_eq] at hc16
 refine Rn [23,0,11,4] ?_
 refine Xl rfl dw rfl (an (.head _) trivial h1) (Xm ?_)
 refine Xv (v:=Pt x.p) rfl (cw dw (Maps.int_keyed u3) dZ rfl rfl (Maps.keyOf_int_mk u3 (cG hid)) (ju (.head _) trivial h2) hF (by rw [hlk]; rfl)) ?_
 refine Rn [11,4] ?_
 refine Xv rfl (bj (vs:=(cB x).take 5) wT rfl mo rfl (fun i hi=>an (.head _) trivial (by match i,hi with | 0,_=>exact hX 0 _ rfl | 1,_=>exact hX 1 _ rfl | 2,_=>exact hX 2 _ rfl | 3,_=>exact hX 3 _ rfl | 4,_=>exact hX 4 _ rfl))) ?_
 refine Rn [32,1,2,6] ?_
 refine yo (cs:=((cB x).take 5).toArray) rfl rfl rfl (.head _) wT rfl mo (fun w' hm=>⟨rfl,hm.b⟩)
theorem g_Free1 {w:World} {mF pF:Nat} {esF:Array MapEntry} {ckF:Nat} {Φ:Value→Option Value} {id:Int} (hF:MapF Tryz.prog 3 esF Φ) (h1:w.cell? ⟨pF,0,none⟩=some (.map (some mF))) (h2:w.heap[mF]?=some (.map esF ckF)) (hid:aj id) {x:FM} (hlk:Φ (Vi id)=some (Pt x.p)) (hX:∀ i v,(cB x)[i]?=some v→w.cell? ⟨x.p,i,none⟩=some v) (hok:aR x.g.s) :
  Calls Tryz.prog 31 #[Pt pF,Vi id] w fun e w'=>e=.returned (Vi (x.g.s.free))∧Later w w':=by
 refine enter Tryz.func31 rfl Tryz.ntmps31 rfl ?_
 refine Rn [3,1,2,5,3,0,62,0,21,59,22] fun b6 hb6=>?_
 refine Xi rfl rfl rfl (fun hg0=>by subst hg0; (try simp only [Qy]); exact aW dw rfl rfl (an (.head _) trivial h1)) (Xg ?_)
 refine fV [] rfl rfl rfl rfl rfl (v:=Pt x.p) (fun hg=>by obtain ⟨hg0,_⟩:=hg; subst hg0; (try simp only [Qy]); exact cw dw (Maps.int_keyed u3) dZ rfl rfl (Maps.keyOf_int_mk u3 (cG hid)) (ju (.head _) trivial h2) hF (by rw [hlk]; rfl)) ?_
 refine fp [] rfl rfl rfl rfl rfl (c:=false) (fun hg=>by obtain ⟨hg0,_⟩:=hg; subst hg0; (try simp only [Qy]); exact gC (o:=some ⟨x.p,0,none⟩) rS rfl rfl) fun b14 hb14=>?_
 refine Rn [25,2,10] fun b15 hb15=>Aw (fun hc15=>?_) fun hc15=>?_
 ·exfalso
  rw [hb15,hb14,hb6] at hc15
  revert hc15; simp
 simp only [hb15,Qz,ne_eq] at hc15
 refine Rn [23,0,11,4] ?_
 refine Xl rfl dw rfl (an (.head _) trivial h1) (Xm ?_)
 refine Xv (v:=Pt x.p) rfl (cw dw (Maps.int_keyed u3) dZ rfl rfl (Maps.keyOf_int_mk u3 (cG hid)) (ju (.head _) trivial h2) hF (by rw [hlk]; rfl)) (Xc rfl Tryz.func81 rfl (fun w1 hw1=>vV (x:=x) w1 (fun i v hv=>an (.head _) trivial (hX i v hv) w1 hw1) hok) ?_)
 refine Rn [1,2,6] ?_
 refine aw rfl rfl (fun w' hm=>⟨?_,hm.b⟩)
 rfl
theorem g_FreeM {w:World} {mF pF:Nat} {esF:Array MapEntry} {ckF:Nat} {Φ:Value→Option Value} {id:Int} (hF:MapF Tryz.prog 3 esF Φ) (h1:w.cell? ⟨pF,0,none⟩=some (.map (some mF))) (h2:w.heap[mF]?=some (.map esF ckF)) (hid:aj id) (hlk:Φ (Vi id)=none) :
  Calls Tryz.prog 31 #[Pt pF,Vi id] w fun e w'=>e=.returned (Vi (0))∧Later w w':=by
 refine enter Tryz.func31 rfl Tryz.ntmps31 rfl ?_
 refine Rn [3,1,2,5,3,0,62,0,21,59,22] fun b6 hb6=>?_
 refine Xi rfl rfl rfl (fun hg0=>by subst hg0; (try simp only [Qy]); exact aW dw rfl rfl (an (.head _) trivial h1)) (Xg ?_)
 refine fV [] rfl rfl rfl rfl rfl (v:=Value.pointer none) (fun hg=>by obtain ⟨hg0,_⟩:=hg; subst hg0; (try simp only [Qy]); exact cw dw (Maps.int_keyed u3) dZ rfl rfl (Maps.keyOf_int_mk u3 (cG hid)) (ju (.head _) trivial h2) hF (by rw [hlk]; rfl)) ?_
 refine fp [] rfl rfl rfl rfl rfl (c:=true) (fun hg=>by obtain ⟨hg0,_⟩:=hg; subst hg0; (try simp only [Qy]); exact gC (o:=none) rS rfl rfl) fun b14 hb14=>?_
 refine Rn [25,2,10] fun b15 hb15=>Aw (fun hc15=>?_) fun hc15=>?_
 ·simp only [hb15,Qz,ne_eq] at hc15
  refine Rn [3,1,2,6,8] ?_
  refine aw rfl rfl (fun w' hm=>⟨?_,hm.b⟩)
  rfl
 exfalso
 rw [hb15,hb14,hb6] at hc15
 revert hc15; simp
theorem g_Free {w:World} {own:List (Nat×Obj)} {ro:List av} {mF pF:Nat} {esF:Array MapEntry} {ckF:Nat} {money:Int} {ms:List FM} (hm:Mem w own ro) (hF:MapF Tryz.prog 3 esF (cC ms)) (hmF:(mF,Obj.map esF ckF)∈own) (hpF:(Bk pF (bP mF money) 125)∈own) (hsub:∀ p∈FB 130 ms,p∈own) (hok:∀ f∈bW ms,aR f.s) (id:Int) (hid:aj id) :
  Calls Tryz.prog 31 #[Pt pF,Vi id] w fun e w'=>e=.returned (Vi (gb (bW ms) id))∧Later w w':=by
 have h1:w.cell? ⟨pF,0,none⟩=some (.map (some mF)):=aa (vs:=bP mF money) hpF rfl w hm
 have h2:w.heap[mF]?=some (.map esF ckF):=hm.own_at _ hmF
 unfold gb
 rw [rc]
 cases hl:iz ms id with
 | none=>exact g_FreeM hF h1 h2 hid (show (iz ms id).map _=none by rw [hl]; rfl)
 | some x =>
  obtain ⟨a,c,k1,k2,k3⟩:=eM hl
  have hx:x∈ms:=by rw [k1]; simp
  exact g_Free1 hF h1 h2 hid (show (iz ms id).map _=_ by rw [hl]; rfl) (fun i v hv=>aa (vs:=cB x) (hsub _ (List.mem_map_of_mem hx)) hv w hm) (hok x.g (List.mem_map_of_mem hx))
open Go.RowKit Go.PK
theorem xN {w:World} {l1 L:List (Nat×Obj)} {ro:List av} {pO mO pF ck:Nat} {es:Array MapEntry} {tol:Int} {Φ:Value→Option Value} (y:PK.Ord) (first:Int) (hm:Mem w (l1++(Bk pO (cJ pF tol mO) 38)::(mO,Obj.map es ck)::L) ro) (hO:MapC Tryz.prog 3 es ck (Φ)) (hy:aj y.id) :
  Calls Tryz.prog 53 #[Pt pO,.agg (bu y first).toArray] w fun e w'=>e=.returned (.tuple #[])∧∃ q:Array MapEntry×Nat,MapC Tryz.prog 3 q.1 q.2 (ir Φ (Vi y.id) (yV y first))∧Mem w' (l1++(Bk pO (cJ pF tol mO) 38)::(mO,Obj.map q.1 q.2)::L) ro:=by
 refine ay hm Tryz.func53 rfl Tryz.ntmps53 rfl ?_
 refine Rn [3,36,2,5,3,0,11,4,7] fun p3=>?_
 refine Xv (v:=Value.bool false) rfl (v_eqm (p:=some mO) oc rfl rfl) ?_
 refine Rn [2,10] (Aw (fun hc8=>?_) fun hc8=>?_)
 ·cases hc8
 refine Rn [16] ?_
 refine bc 8 ?_
 refine Rn [0,11,4,7,4,4,7,39] ?_
 refine gm ((Bk p3 (bu y first) 100)::(l1++[(Bk pO (cJ pF tol mO) 38)])) (l2:=L) (es:=es) (clock:=ck) rfl rfl rfl rfl oc (Maps.int_keyed u3) (Maps.keyOf_int_mk u3 (cG hy)) (by simp [List.append_assoc] <;> rfl) hO ?_
 intro es16 clock16 hmf16
 refine Ze ?_
 refine tw rfl (fun w' hm'=>⟨rfl,(es16,clock16),hmf16,?_⟩)
 exact (hm'.less Ls (fun _ h=>h)).to (by simp)
theorem g_res (x:PK.Ord) (first:Int) (w:World) (hx:dm x) :
  Calls Tryz.prog 57 #[.agg (bu x first).toArray] w fun e w'=>e=.returned (Vi (aL x))∧Later w w':=by
 obtain ⟨⟨o1,o2⟩,⟨o3,o4⟩,⟨o5,o6⟩,⟨o7,o8⟩,⟨o9,o10⟩,⟨o11,o12⟩,⟨o13,o14⟩,⟨o15,o16⟩,o17,o18⟩:=show dm x from hx
 have hmul:-99980001000000≤(x.prom - x.paid)*x.price∧(x.prom - x.paid)*x.price≤99980001000000:=vS hx
 refine enter Tryz.func57 rfl Tryz.ntmps57 rfl ?_
 refine Rn [3,36,1,9,4,4,7,4,4,7,54,4,4,7] fun p1=>?_
 refine Xv rfl (cY rfl rfl rfl Zo) ?_
 refine Rn [1,2,6] ?_
 refine aw rfl rfl (fun w' hm=>⟨?_,hm.b⟩)
 rfl
theorem g_check {pO:Nat} {tol:Int} (ln x:PK.Ord) (first:Int) (w:World) (h1:w.cell? ⟨pO,1,none⟩=some (Vi tol)) (ht:0≤tol∧tol≤1000000) (hl:0≤ln.price∧ln.price≤999999999) (hx:dm x) :
  Calls Tryz.prog 62 #[Pt pO,.agg ln.cells.toArray,.agg (bu x first).toArray,.bool true] w fun e w'=>e=.returned (Vi (bA tol ln (some (x,first))))∧Later w w':=by
 obtain ⟨⟨o1,o2⟩,⟨o3,o4⟩,⟨o5,o6⟩,⟨o7,o8⟩,⟨o9,o10⟩,⟨o11,o12⟩,⟨o13,o14⟩,⟨o15,o16⟩,o17,o18⟩:=show dm x from hx
 obtain ⟨hl1,hl2⟩:=hl
 refine enter Tryz.func62 rfl Tryz.ntmps62 rfl ?_
 refine Rn [3,36,36,1,2,5,14,3,0,43,1,2,10] fun p5 p6 b11 hb11=>Aw (fun hc9=>?_) fun hc9=>?_
 ·exfalso
  rw [hb11] at hc9
  revert hc9; simp
 simp only [hb11,Qz,ne_eq] at hc9
 refine Rn [3,4,4,7,38,1,2,12] fun b16 hb16=>Aw (fun hc12=>?_) fun hc12=>?_
 ·refine Rn [3,1,2,6,15,8] ?_
  refine aw rfl rfl (fun w' hm=>⟨?_,hm.b⟩)
  unfold bA; dsimp only; rw [if_pos (by simpa using hc12)]
 refine Rn [3,4,4] ?_
 refine Xv rfl (bj (vs:=[Vi x.src,Vi x.num]) l9 rfl iL rfl (fun j hj=>aa (vs:=bu x first) (.head _) (by match j,hj with | 0,_=>rfl | 1,_=>rfl))) ?_
 refine Rn [4] ?_
 refine Xv rfl (bj (vs:=[Vi ln.src,Vi ln.num]) l9 rfl iL rfl (fun j hj=>aa (vs:=ln.cells) (.tail _ (.head _)) (by match j,hj with | 0,_=>rfl | 1,_=>rfl))) (Xb rfl (ui Zk rfl rfl (fun w1=>xn w1 x.src x.num ln.src ln.num)) fun b23 hb23=>?_)
 refine Rn [1,2,10] (Aw (fun hc17=>?_) fun hc17=>?_)
 ·simp only [hb23,Qz,ne_eq] at hc17
  refine Rn [3,1,2,6,15,8] ?_
  refine aw rfl rfl (fun w' hm=>⟨?_,hm.b⟩)
  unfold bA; dsimp only; rw [if_neg (by simpa using hc12),if_pos (by simpa using hc17)]
 simp only [hb23,Qz,ne_eq] at hc17
 refine Rn [3,4,7,4,4,7,4,4,7,54,60,1,2,12] fun b34 hb34=>Aw (fun hc24=>?_) fun hc24=>?_
 ·refine Rn [3,1,2,6,15,8] ?_
  refine aw rfl rfl (fun w' hm=>⟨?_,hm.b⟩)
  unfold bA; dsimp only; rw [if_neg (by simpa using hc12),if_neg (by simpa using hc17),if_pos (by simpa using hc24)]
 refine Rn [3,0,4,7,4,4,7] ?_
 refine Xh rfl Tryz.func56 rfl (fun w1 hw1=>c_near (tol:=tol) ln.price x.price w1 (an (.head _) trivial h1 w1 hw1) ht ⟨hl1,hl2⟩ ⟨o1,o2⟩) fun b42 hb42=>?_
 refine Rn [43,1,2,10] fun b43 hb43=>Aw (fun hc35=>?_) fun hc35=>?_
 ·simp only [hb43,hb42,Qz,ne_eq] at hc35
  refine Rn [3,1,2,6,15,8] ?_
  refine aw rfl rfl (fun w' hm=>⟨?_,hm.b⟩)
  unfold bA; dsimp only; rw [if_neg (by simpa using hc12),if_neg (by simpa using hc17),if_neg (by simpa using hc24),if_pos (by simpa using hc35)]
 simp only [hb43,hb42,Qz,ne_eq] at hc35
 refine Rn [45,27,17,3,1,2,6] ?_
 refine aw rfl rfl (fun w' hm=>⟨?_,hm.b⟩)
 unfold bA; dsimp only; rw [if_neg (by simpa using hc12),if_neg (by simpa using hc17),if_neg (by simpa using hc24),if_neg (by simpa using hc35)]
theorem g_checkM {pO:Nat} {tol:Int} (ln x:PK.Ord) (first:Int) (w:World) :
  Calls Tryz.prog 62 #[Pt pO,.agg ln.cells.toArray,.agg (bu x first).toArray,.bool false] w fun e w'=>e=.returned (Vi (32))∧Later w w':=by
 refine enter Tryz.func62 rfl Tryz.ntmps62 rfl ?_
 refine Rn [3,36,36,1,2,5,14,3,0,43,1,2,10] fun p5 p6 b11 hb11=>Aw (fun hc9=>?_) fun hc9=>?_
 ·simp only [hb11,Qz,ne_eq] at hc9
  refine Rn [3,1,2,6,15,8] ?_
  refine aw rfl rfl (fun w' hm=>⟨?_,hm.b⟩)
  rfl
 exfalso
 rw [hb11] at hc9
 revert hc9; simp
theorem vZ {w:World} {L:List (Nat×Obj)} {ro:List av} {mF pF pO mO ckF ckO:Nat} {esF esO:Array MapEntry} {money:Int} {ms:List FM} {s:SG} (hm:Mem w ((Bk pO (cJ pF s.tol mO) 38)::(mO,Obj.map esO ckO)::(mF,Obj.map esF ckF)::(Bk pF (bP mF money) 125)::(FB 130 ms++L)) ro) (hF:MapF Tryz.prog 3 esF (cC ms)) (hO:MapC Tryz.prog 3 esO ckO (fR s.L)) (hfs:bW ms=s.fs) (hok:SGok s) {id:Int} (hid:aj id) {x:PK.Ord} {first:Int} (hl:cq s.L id=some (x,first)) (n:Int) (hn:aj n) :
  Calls Tryz.prog 14 #[Pt pO,Vi id,Vi n] w fun e w'=>e=.returned (Vi (ar s id n).1)∧∃ q:Array MapEntry×Nat×List FM,(MapC Tryz.prog 3 q.1 q.2.1 (fR (ar s id n).2.L)∧bW q.2.2=(ar s id n).2.fs∧cC q.2.2=cC ms∧(ar s id n).2.tol=s.tol)∧Mem w' ((Bk pO (cJ pF s.tol mO) 38)::(mO,Obj.map q.1 q.2.1)::(mF,Obj.map esF ckF)::(Bk pF (bP mF money) 125)::(FB 130 q.2.2++L)) ro:=by
 obtain ⟨hx,hfi1,hfi2⟩:=hok.at hl
 have hxid:x.id=id:=(bL hl).2
 have hhere:(cq s.L x.id).isSome=true:=by rw [hxid,hl]; rfl
 have htol:=hok.tol
 have hfk:∀ f∈bW ms,aR f.s:=by rw [hfs]; exact hok.fs
 obtain ⟨⟨o1,o2⟩,⟨o3,o4⟩,⟨o5,o6⟩,⟨o7,o8⟩,⟨o9,o10⟩,⟨o11,o12⟩,⟨o13,o14⟩,⟨o15,o16⟩,o17,o18⟩:=show dm x from hx
 refine ay hm Tryz.func14 rfl Tryz.ntmps14 rfl ?_
 refine Rn [3,1,2,5,3,0,52,2,10] (Aw (fun hc10=>?_) fun hc10=>?_)
 ·cases hc10
 refine Rn [23,0,11,4,7,0] ?_
 refine Xv (v:=Value.tuple #[yV x first,.bool true]) rfl (cI oc (Maps.int_keyed u3) f0 rfl rfl (Maps.keyOf_int_mk u3 (cG hid)) (cf (.tail _ (.head _))) hO.f (by rw [cd,hl]; rfl) (by rw [cd,hl]; rfl)) ?_
 refine Rn [0,20,48,28,32,1,2,5,14,3,0,43,1,2,10] fun b19 hb19 p7 b22 hb22=>Aw (fun hc20=>?_) fun hc20=>?_
 ·exfalso
  rw [hb22,hb19] at hc20
  revert hc20; simp
 simp only [hb22,hb19,Qz,ne_eq] at hc20
 refine Rn [3,4,4,7,38,1,2,12] fun b27 hb27=>Aw (fun hc23=>?_) fun hc23=>?_
 ·refine Rn [3,1,2,6,15,8] ?_
  refine aw rfl rfl (fun w' hm'=>?_)
  rw [show (ar s id n)=(50,s) from by unfold ar; rw [hl]; dsimp only; rw [if_pos (by simpa using hc23)]]
  exact ⟨rfl,(esO,ckO,ms),⟨hO,hfs,rfl,rfl⟩,hm'.less Ls (fun _ h=>h)⟩
 refine Rn [3,0,24,0,21,22,22,40,22,22,40,80,63,25,1,2,12] fun b30 hb30 b40 hb40 b41 hb41=>Aw (fun hc28=>?_) fun hc28=>?_
 ·refine Rn [3,1,2,6,15,8] ?_
  refine aw rfl rfl (fun w' hm'=>?_)
  rw [show (ar s id n)=(1,s) from by unfold ar; rw [hl]; dsimp only; rw [if_neg (by simpa using hc23),if_pos (by omega)]]
  exact ⟨rfl,(esO,ckO,ms),⟨hO,hfs,rfl,rfl⟩,hm'.less Ls (fun _ h=>h)⟩
 refine Rn [45,27,17,3,4,4,7,0,26,4,4] ?_
 refine aG (cs:=bu x first) (off:=8) (e:=100) (l2:=(Bk pO (cJ pF s.tol mO) 38)::(mO,Obj.map esO ckO)::(mF,Obj.map esF ckF)::(Bk pF (bP mF money) 125)::(FB 130 ms++L)) [] rfl rfl rfl rfl cT rfl (by show 9≤10; decide) ?_
 refine Rn [9,0] ?_
 refine Xv rfl (bS (e:=100) (fz:=(0,0)) (cs:=(bu { x with st:=x.st+n } first).toArray) Aa rfl rfl (.head _) wL) ?_
 refine aI (τ:=Array MapEntry×Nat) (v:=Value.tuple #[]) (fun q=>MapC Tryz.prog 3 q.1 q.2 (fR (dl s.L ({ x with st:=x.st+n },first)))) (fun q=>[(Bk p7 (bu { x with st:=x.st+n } first) 100)]++(Bk pO (cJ pF s.tol mO) 38)::(mO,Obj.map q.1 q.2)::(mF,Obj.map esF ckF)::(Bk pF (bP mF money) 125)::(FB 130 ms++L)) rfl rfl Tryz.func53 Zk rfl (fun w1 hw1=>(xN (l1:=[(Bk p7 (bu { x with st:=x.st+n } first) 100)]) { x with st:=x.st+n } first hw1 hO (by unfold aj; dsimp only; omega)).mono fun e w2 ⟨h1,q,h2,h3⟩=>⟨h1,q,by rw [← (nA (y:=({ x with st:=x.st+n },first)) hhere)]; exact h2,h3⟩) fun q51 hq51=>?_
 refine Rn [9,1,2,6] ?_
 refine aw rfl rfl (fun w' hm'=>?_)
 rw [show (ar s id n)=(0,{ s with L:=dl s.L ({ x with st:=x.st+n },first) }) from by unfold ar; rw [hl]; dsimp only; rw [if_neg (by simpa using hc23),if_neg (by omega)]]
 exact ⟨rfl,(q51.1,q51.2,ms),⟨hq51,hfs,rfl,rfl⟩,hm'.less Ls (fun _ h=>h)⟩
theorem v6 {w:World} {L:List (Nat×Obj)} {ro:List av} {mF pF pO mO ckF ckO:Nat} {esF esO:Array MapEntry} {money:Int} {ms:List FM} {s:SG} (hm:Mem w ((Bk pO (cJ pF s.tol mO) 38)::(mO,Obj.map esO ckO)::(mF,Obj.map esF ckF)::(Bk pF (bP mF money) 125)::(FB 130 ms++L)) ro) (hF:MapF Tryz.prog 3 esF (cC ms)) (hO:MapC Tryz.prog 3 esO ckO (fR s.L)) (hfs:bW ms=s.fs) (hok:SGok s) {id:Int} (hid:aj id) (hl:cq s.L id=none) (n:Int) (hn:aj n) :
  Calls Tryz.prog 14 #[Pt pO,Vi id,Vi n] w fun e w'=>e=.returned (Vi (ar s id n).1)∧∃ q:Array MapEntry×Nat×List FM,(MapC Tryz.prog 3 q.1 q.2.1 (fR (ar s id n).2.L)∧bW q.2.2=(ar s id n).2.fs∧cC q.2.2=cC ms∧(ar s id n).2.tol=s.tol)∧Mem w' ((Bk pO (cJ pF s.tol mO) 38)::(mO,Obj.map q.1 q.2.1)::(mF,Obj.map esF ckF)::(Bk pF (bP mF money) 125)::(FB 130 q.2.2++L)) ro:=by
 refine ay hm Tryz.func14 rfl Tryz.ntmps14 rfl ?_
 refine Rn [3,1,2,5,3,0,52,2,10] (Aw (fun hc10=>?_) fun hc10=>?_)
 ·cases hc10
 refine Rn [23,0,11,4,7,0] ?_
 refine Xv (v:=Value.tuple #[.agg (bu co 0).toArray,.bool false]) rfl (cI oc (Maps.int_keyed u3) f0 rfl rfl (Maps.keyOf_int_mk u3 (cG hid)) (cf (.tail _ (.head _))) hO.f (by rw [cd,hl]; rfl) (by rw [cd,hl]; rfl)) ?_
 refine Rn [0,20,48,28,32,1,2,5,14,3,0,43,1,2,10] fun b19 hb19 p7 b22 hb22=>Aw (fun hc20=>?_) fun hc20=>?_
 ·simp only [hb22,hb19,Qz,ne_eq] at hc20
  refine Rn [3,1,2,6,15,8] ?_
  refine aw rfl rfl (fun w' hm'=>?_)
  rw [show (ar s id n)=(32,s) from by unfold ar; rw [hl]]
  exact ⟨rfl,(esO,ckO,ms),⟨hO,hfs,rfl,rfl⟩,hm'.less Ls (fun _ h=>h)⟩
 exfalso
 rw [hb22,hb19] at hc20
 revert hc20; simp
theorem zh {w:World} {L:List (Nat×Obj)} {ro:List av} {mF pF pO mO ckF ckO:Nat} {esF esO:Array MapEntry} {money:Int} {ms:List FM} {s:SG} (hm:Mem w ((Bk pO (cJ pF s.tol mO) 38)::(mO,Obj.map esO ckO)::(mF,Obj.map esF ckF)::(Bk pF (bP mF money) 125)::(FB 130 ms++L)) ro) (hF:MapF Tryz.prog 3 esF (cC ms)) (hO:MapC Tryz.prog 3 esO ckO (fR s.L)) (hfs:bW ms=s.fs) (hok:SGok s) {id:Int} (hid:aj id) (n:Int) (hn:aj n):Calls Tryz.prog 14 #[Pt pO,Vi id,Vi n] w fun e w'=>e=.returned (Vi (ar s id n).1)∧∃ q:Array MapEntry×Nat×List FM,(MapC Tryz.prog 3 q.1 q.2.1 (fR (ar s id n).2.L)∧bW q.2.2=(ar s id n).2.fs∧cC q.2.2=cC ms∧(ar s id n).2.tol=s.tol)∧Mem w' ((Bk pO (cJ pF s.tol mO) 38)::(mO,Obj.map q.1 q.2.1)::(mF,Obj.map esF ckF)::(Bk pF (bP mF money) 125)::(FB 130 q.2.2++L)) ro:=by
 cases hl:cq s.L id with
 | none=>exact v6 hm hF hO hfs hok hid hl n hn
 | some z=>obtain ⟨x,first⟩:=z; exact vZ hm hF hO hfs hok hid hl n hn
theorem im {R:FSt→Int→Int×FSt} (hR:∀ {f:FSt} {n:Int},(R f n).1≠0→(R f n).2=f) {fs:List FG} {id n:Int} (h:(ap R fs id n).1≠0):(ap R fs id n).2=fs:=by
 unfold ap at h ⊢
 cases hl:fl fs id with
 | none=>rfl
 | some f=>rw [hl] at h; dsimp only at h ⊢; rw [hR h]; exact qZ hl
theorem zi {w:World} {L:List (Nat×Obj)} {ro:List av} {mF pF pO mO ckF ckO:Nat} {esF esO:Array MapEntry} {money:Int} {ms:List FM} {s:SG} (hm:Mem w ((Bk pO (cJ pF s.tol mO) 38)::(mO,Obj.map esO ckO)::(mF,Obj.map esF ckF)::(Bk pF (bP mF money) 125)::(FB 130 ms++L)) ro) (hF:MapF Tryz.prog 3 esF (cC ms)) (hO:MapC Tryz.prog 3 esO ckO (fR s.L)) (hfs:bW ms=s.fs) (hok:SGok s) {id:Int} (hid:aj id) {x:PK.Ord} {first:Int} (hl:cq s.L id=some (x,first)) :
  Calls Tryz.prog 16 #[Pt pO,Vi id] w fun e w'=>e=.returned (Vi (aE s id).1)∧∃ q:Array MapEntry×Nat×List FM,(MapC Tryz.prog 3 q.1 q.2.1 (fR (aE s id).2.L)∧bW q.2.2=(aE s id).2.fs∧cC q.2.2=cC ms∧(aE s id).2.tol=s.tol)∧Mem w' ((Bk pO (cJ pF s.tol mO) 38)::(mO,Obj.map q.1 q.2.1)::(mF,Obj.map esF ckF)::(Bk pF (bP mF money) 125)::(FB 130 q.2.2++L)) ro:=by
 obtain ⟨hx,hfi1,hfi2⟩:=hok.at hl
 have hxid:x.id=id:=(bL hl).2
 have hhere:(cq s.L x.id).isSome=true:=by rw [hxid,hl]; rfl
 have htol:=hok.tol
 have hfk:∀ f∈bW ms,aR f.s:=by rw [hfs]; exact hok.fs
 obtain ⟨⟨o1,o2⟩,⟨o3,o4⟩,⟨o5,o6⟩,⟨o7,o8⟩,⟨o9,o10⟩,⟨o11,o12⟩,⟨o13,o14⟩,⟨o15,o16⟩,o17,o18⟩:=show dm x from hx
 have hres:-99980001000000≤aL x∧aL x≤99980001000000:=vS hx
 refine ay hm Tryz.func16 rfl Tryz.ntmps16 rfl ?_
 refine Rn [3,1,2,5,3,0,52,2,10] (Aw (fun hc9=>?_) fun hc9=>?_)
 ·cases hc9
 refine Rn [23,0,11,4,7,0] ?_
 refine Xv (v:=Value.tuple #[yV x first,.bool true]) rfl (cI oc (Maps.int_keyed u3) f0 rfl rfl (Maps.keyOf_int_mk u3 (cG hid)) (cf (.tail _ (.head _))) hO.f (by rw [cd,hl]; rfl) (by rw [cd,hl]; rfl)) ?_
 refine Rn [0,20,48,28,32,1,2,5,14,3,0,43,1,2,10] fun b18 hb18 p5 b21 hb21=>Aw (fun hc19=>?_) fun hc19=>?_
 ·exfalso
  rw [hb21,hb18] at hc19
  revert hc19; simp
 simp only [hb21,hb18,Qz,ne_eq] at hc19
 refine Rn [3,4,4,7,38,0,22,22,40,22,22,40,63,25,1,2,12] fun b26 hb26 b34 hb34 b35 hb35=>Aw (fun hc22=>?_) fun hc22=>?_
 ·refine Rn [3,1,2,6,15,8] ?_
  refine aw rfl rfl (fun w' hm'=>?_)
  rw [show (aE s id)=(50,s) from by unfold aE; rw [hl]; dsimp only; rw [← hfs,if_pos (by omega)]]
  exact ⟨rfl,(esO,ckO,ms),⟨hO,hfs,rfl,rfl⟩,hm'.less Ls (fun _ h=>h)⟩
 refine Rn [45,27,17,5,5] ?_
 refine bc 9 ?_
 refine Rn [0,11,4,7,4,4,7,39] ?_
 refine Xc rfl Tryz.func57 rfl (fun w1 hw1=>g_res x first w1 hx) ?_
 refine aI (τ:=List FM) (v:=Vi (ap aS (bW ms) x.fund (aL x)).1) (fun q=>bW q=(ap aS (bW ms) x.fund (aL x)).2∧cC q=cC ms) (fun q=>(Bk p5 (bu x first) 100)::(Bk pO (cJ pF s.tol mO) 38)::(mO,Obj.map esO ckO)::(mF,Obj.map esF ckF)::(Bk pF (bP mF money) 125)::(FB 130 q++L)) rfl rfl Tryz.func58 Zk rfl (fun w1 hw1=>g_rel (l1:=[(Bk p5 (bu x first) 100),(Bk pO (cJ pF s.tol mO) 38),(mO,Obj.map esO ckO),(mF,Obj.map esF ckF),(Bk pF (bP mF money) 125)]) (ms:=ms) hw1 hF Zh Zh hfk (x.fund) (by unfold aj; omega) (aL x)) fun m45 hm45=>?_
 refine Rn [1,9,0,37,2,12] fun b47 hb47=>Aw (fun hc47=>?_) fun hc47=>?_
 ·refine Rn [3,0,1,2,6,8] ?_
  refine aw rfl rfl (fun w' hm'=>?_)
  have hf1:(ap aS (bW ms) x.fund (aL x)).2=bW ms:=im sr hc47
  rw [show (aE s id)=((ap aS (bW ms) x.fund (aL x)).1,s) from by unfold aE; rw [hl]; dsimp only; rw [← hfs,if_neg (by omega),if_pos (by simpa using hc47)]]
  exact ⟨rfl,(esO,ckO,m45),⟨hO,hm45.1.trans (hf1.trans hfs),hm45.2,rfl⟩,hm'.less Ls (fun _ h=>h)⟩
 refine Rn [23,4,4,7,4,4] ?_
 refine aG (cs:=bu x first) (off:=6) (e:=100) (l2:=(Bk pO (cJ pF s.tol mO) 38)::(mO,Obj.map esO ckO)::(mF,Obj.map esF ckF)::(Bk pF (bP mF money) 125)::(FB 130 m45++L)) [] rfl rfl rfl rfl cT rfl (by show 7≤10; decide) ?_
 refine Rn [4,4] ?_
 refine aG (cs:=bu { x with prom:=x.paid } first) (off:=8) (e:=100) (l2:=(Bk pO (cJ pF s.tol mO) 38)::(mO,Obj.map esO ckO)::(mF,Obj.map esF ckF)::(Bk pF (bP mF money) 125)::(FB 130 m45++L)) [] rfl rfl rfl rfl cT rfl (by show 9≤10; decide) ?_
 refine Rn [9,0] ?_
 refine Xv rfl (bS (e:=100) (fz:=(0,0)) (cs:=(bu { x with prom:=x.paid,st:=-1 } first).toArray) Aa rfl rfl (.head _) wL) ?_
 refine aI (τ:=Array MapEntry×Nat) (v:=Value.tuple #[]) (fun q=>MapC Tryz.prog 3 q.1 q.2 (fR (dl s.L ({ x with prom:=x.paid,st:=-1 },first)))) (fun q=>[(Bk p5 (bu { x with prom:=x.paid,st:=-1 } first) 100)]++(Bk pO (cJ pF s.tol mO) 38)::(mO,Obj.map q.1 q.2)::(mF,Obj.map esF ckF)::(Bk pF (bP mF money) 125)::(FB 130 m45++L)) rfl rfl Tryz.func53 Zk rfl (fun w1 hw1=>(xN (l1:=[(Bk p5 (bu { x with prom:=x.paid,st:=-1 } first) 100)]) { x with prom:=x.paid,st:=-1 } first hw1 hO (by unfold aj; dsimp only; omega)).mono fun e w2 ⟨h1,q,h2,h3⟩=>⟨h1,q,by rw [← (nA (y:=({ x with prom:=x.paid,st:=-1 },first)) hhere)]; exact h2,h3⟩) fun q58 hq58=>?_
 refine Rn [9,1,2,6] ?_
 refine aw rfl rfl (fun w' hm'=>?_)
 rw [show (aE s id)=(0,⟨(ap aS (bW ms) x.fund (aL x)).2,s.tol,dl s.L ({ x with prom:=x.paid,st:=-1 },first)⟩) from by unfold aE; rw [hl]; dsimp only; rw [← hfs,if_neg (by omega),if_neg (by simpa using hc47)]]
 exact ⟨rfl,(q58.1,q58.2,m45),⟨hq58,hm45.1,hm45.2,rfl⟩,hm'.less Ls (fun _ h=>h)⟩
theorem zj {w:World} {L:List (Nat×Obj)} {ro:List av} {mF pF pO mO ckF ckO:Nat} {esF esO:Array MapEntry} {money:Int} {ms:List FM} {s:SG} (hm:Mem w ((Bk pO (cJ pF s.tol mO) 38)::(mO,Obj.map esO ckO)::(mF,Obj.map esF ckF)::(Bk pF (bP mF money) 125)::(FB 130 ms++L)) ro) (hF:MapF Tryz.prog 3 esF (cC ms)) (hO:MapC Tryz.prog 3 esO ckO (fR s.L)) (hfs:bW ms=s.fs) (hok:SGok s) {id:Int} (hid:aj id) (hl:cq s.L id=none) :
  Calls Tryz.prog 16 #[Pt pO,Vi id] w fun e w'=>e=.returned (Vi (aE s id).1)∧∃ q:Array MapEntry×Nat×List FM,(MapC Tryz.prog 3 q.1 q.2.1 (fR (aE s id).2.L)∧bW q.2.2=(aE s id).2.fs∧cC q.2.2=cC ms∧(aE s id).2.tol=s.tol)∧Mem w' ((Bk pO (cJ pF s.tol mO) 38)::(mO,Obj.map q.1 q.2.1)::(mF,Obj.map esF ckF)::(Bk pF (bP mF money) 125)::(FB 130 q.2.2++L)) ro:=by
 refine ay hm Tryz.func16 rfl Tryz.ntmps16 rfl ?_
 refine Rn [3,1,2,5,3,0,52,2,10] (Aw (fun hc9=>?_) fun hc9=>?_)
 ·cases hc9
 refine Rn [23,0,11,4,7,0] ?_
 refine Xv (v:=Value.tuple #[.agg (bu co 0).toArray,.bool false]) rfl (cI oc (Maps.int_keyed u3) f0 rfl rfl (Maps.keyOf_int_mk u3 (cG hid)) (cf (.tail _ (.head _))) hO.f (by rw [cd,hl]; rfl) (by rw [cd,hl]; rfl)) ?_
 refine Rn [0,20,48,28,32,1,2,5,14,3,0,43,1,2,10] fun b18 hb18 p5 b21 hb21=>Aw (fun hc19=>?_) fun hc19=>?_
 ·simp only [hb21,hb18,Qz,ne_eq] at hc19
  refine Rn [3,1,2,6,15,8] ?_
  refine aw rfl rfl (fun w' hm'=>?_)
  rw [show (aE s id)=(32,s) from by unfold aE; rw [hl]]
  exact ⟨rfl,(esO,ckO,ms),⟨hO,hfs,rfl,rfl⟩,hm'.less Ls (fun _ h=>h)⟩
 exfalso
 rw [hb21,hb18] at hc19
 revert hc19; simp
theorem g_Cancel {w:World} {L:List (Nat×Obj)} {ro:List av} {mF pF pO mO ckF ckO:Nat} {esF esO:Array MapEntry} {money:Int} {ms:List FM} {s:SG} (hm:Mem w ((Bk pO (cJ pF s.tol mO) 38)::(mO,Obj.map esO ckO)::(mF,Obj.map esF ckF)::(Bk pF (bP mF money) 125)::(FB 130 ms++L)) ro) (hF:MapF Tryz.prog 3 esF (cC ms)) (hO:MapC Tryz.prog 3 esO ckO (fR s.L)) (hfs:bW ms=s.fs) (hok:SGok s) {id:Int} (hid:aj id):Calls Tryz.prog 16 #[Pt pO,Vi id] w fun e w'=>e=.returned (Vi (aE s id).1)∧∃ q:Array MapEntry×Nat×List FM,(MapC Tryz.prog 3 q.1 q.2.1 (fR (aE s id).2.L)∧bW q.2.2=(aE s id).2.fs∧cC q.2.2=cC ms∧(aE s id).2.tol=s.tol)∧Mem w' ((Bk pO (cJ pF s.tol mO) 38)::(mO,Obj.map q.1 q.2.1)::(mF,Obj.map esF ckF)::(Bk pF (bP mF money) 125)::(FB 130 q.2.2++L)) ro:=by
 cases hl:cq s.L id with
 | none=>exact zj hm hF hO hfs hok hid hl 
 | some z=>obtain ⟨x,first⟩:=z; exact zi hm hF hO hfs hok hid hl 
end Go.Proofs.YtifekogdhjabaaaGreatDoor

/-
  DERIVED: THE SHELF's CONTRACTS AT THIS DUMP,IN PLAIN WORDS (tools/lay-plain.mjs out of 'TryzKeys.lean',which tools/lay-shelf.mjs wrote): THE SAME DECLARATIONS UNDER THE SAME NAMES: 'import','namespace','open','def','theorem' AND NOTHING ELSE: no command of the shelf's: FOR A HAND-IN. Each laying: the table of numbers ('.._ren') and one theorem,a field a fact of the dump's own or the kernel's comparison; each contract: ONE APPLICATION.
-/
namespace Go.Proofs
open Go.Shelf
def Tryz.keysO_ren:Go.Shelf.Ren:=⟨fun | 7=>66 | 10=>125 | n=>n,fun | 23=>36 | 26=>3 | 3=>100 | 28=>118 | 0=>0 | 27=>117 | 33=>179 | 4=>4 | n=>n,fun | n=>n⟩
theorem Tryz.keysO:Go.Proofs.SlLaysZI.n7 Tryz.prog Tryz.keysO_ren:={
  mixed:=by kernel_rfl
  f7:=⟨Tryz.f66.name,by decide,Tryz.func66.trans (congrArg some (by kernel_rfl))⟩
  f10:=⟨Tryz.f125.name,by decide,Tryz.func125.trans (congrArg some (by kernel_rfl))⟩
  t0:=Tryz.underlying0
  a0:=Tryz.isAgg0
  z0:=Tryz.sizeOf0
  v0:=Tryz.zeroValue0
  t4:=Tryz.underlying4
  a4:=Tryz.isAgg4
  z4:=Tryz.sizeOf4
  v4:=Tryz.zeroValue4
  t23:=Tryz.underlying36
  a23:=Tryz.isAgg36
  z23:=Tryz.sizeOf36
  v23:=Tryz.zeroValue36
  t26:=Tryz.underlying3
  a26:=Tryz.isAgg3
  z26:=Tryz.sizeOf3
  v26:=Tryz.zeroValue3
  t27:=Tryz.underlying117
  a27:=Tryz.isAgg117
  z27:=Tryz.sizeOf117
  v27:=Tryz.zeroValue117
  t28:=Tryz.underlying118
  a28:=Tryz.isAgg118
  z28:=Tryz.sizeOf118
  v28:=Tryz.zeroValue118
  t33:=Tryz.underlying179
  a33:=Tryz.isAgg179
  z33:=Tryz.sizeOf179
  v33:=Tryz.zeroValue179 }
def Tryz.keysF_ren:Go.Shelf.Ren:=⟨fun | 7=>68 | 10=>126 | n=>n,fun | 23=>123 | 26=>3 | 3=>126 | 28=>118 | 0=>0 | 27=>117 | 33=>179 | 4=>4 | n=>n,fun | n=>n⟩
theorem Tryz.keysF:Go.Proofs.SlLaysZI.n7 Tryz.prog Tryz.keysF_ren:={
  mixed:=by kernel_rfl
  f7:=⟨Tryz.f68.name,by decide,Tryz.func68.trans (congrArg some (by kernel_rfl))⟩
  f10:=⟨Tryz.f126.name,by decide,Tryz.func126.trans (congrArg some (by kernel_rfl))⟩
  t0:=Tryz.underlying0
  a0:=Tryz.isAgg0
  z0:=Tryz.sizeOf0
  v0:=Tryz.zeroValue0
  t4:=Tryz.underlying4
  a4:=Tryz.isAgg4
  z4:=Tryz.sizeOf4
  v4:=Tryz.zeroValue4
  t23:=Tryz.underlying123
  a23:=Tryz.isAgg123
  z23:=Tryz.sizeOf123
  v23:=Tryz.zeroValue123
  t26:=Tryz.underlying3
  a26:=Tryz.isAgg3
  z26:=Tryz.sizeOf3
  v26:=Tryz.zeroValue3
  t27:=Tryz.underlying117
  a27:=Tryz.isAgg117
  z27:=Tryz.sizeOf117
  v27:=Tryz.zeroValue117
  t28:=Tryz.underlying118
  a28:=Tryz.isAgg118
  z28:=Tryz.sizeOf118
  v28:=Tryz.zeroValue118
  t33:=Tryz.underlying179
  a33:=Tryz.isAgg179
  z33:=Tryz.sizeOf179
  v33:=Tryz.zeroValue179 }
def Tryz.sorted_ren:Go.Shelf.Ren:=⟨fun | 6=>65 | 8=>123 | 9=>124 | 11=>168 | 13=>170 | 12=>169 | 23=>196 | 24=>197 | 14=>188 | 15=>189 | 16=>190 | 17=>191 | 18=>192 | 19=>193 | 20=>172 | 21=>194 | 22=>195 | 25=>212 | 26=>213 | 27=>214 | 28=>215 | 29=>216 | 30=>198 | 31=>232 | n=>n,fun | 26=>3 | 28=>118 | 24=>44 | 0=>0 | 3=>3 | 37=>222 | 48=>246 | 50=>151 | 4=>4 | 40=>240 | 39=>239 | 45=>115 | 5=>5 | 9=>9 | 51=>259 | 55=>262 | 57=>276 | 58=>277 | 33=>179 | n=>n,fun | n=>n⟩
theorem Tryz.sorted:Go.Proofs.SlLaysZI.n6 Tryz.prog Tryz.sorted_ren:={
  mixed:=by kernel_rfl
  f6:=⟨Tryz.f65.name,by decide,Tryz.func65.trans (congrArg some (by kernel_rfl))⟩
  f8:=⟨Tryz.f123.name,by decide,Tryz.func123.trans (congrArg some (by kernel_rfl))⟩
  f11:=⟨Tryz.f168.name,by decide,Tryz.func168.trans (congrArg some (by kernel_rfl))⟩
  t0:=Tryz.underlying0
  a0:=Tryz.isAgg0
  z0:=Tryz.sizeOf0
  v0:=Tryz.zeroValue0
  t24:=Tryz.underlying44
  a24:=Tryz.isAgg44
  z24:=Tryz.sizeOf44
  v24:=Tryz.zeroValue44
  t26:=Tryz.underlying3
  a26:=Tryz.isAgg3
  z26:=Tryz.sizeOf3
  v26:=Tryz.zeroValue3
  t28:=Tryz.underlying118
  a28:=Tryz.isAgg118
  z28:=Tryz.sizeOf118
  v28:=Tryz.zeroValue118
  i26:=by kernel_rfl }
def Tryz.sort_ren:Go.Shelf.Ren:=⟨fun | 5=>124 | 8=>170 | 7=>169 | 19=>196 | 20=>197 | 10=>188 | 11=>189 | 12=>190 | 13=>191 | 14=>192 | 15=>193 | 16=>172 | 17=>194 | 18=>195 | 30=>212 | 31=>213 | 32=>214 | 33=>215 | 34=>216 | 35=>198 | 40=>232 | n=>n,fun | 23=>44 | 25=>3 | 3=>3 | 32=>222 | 22=>44 | 0=>0 | 44=>246 | 46=>151 | 4=>4 | 36=>240 | 35=>239 | 41=>115 | 5=>5 | 9=>9 | 53=>259 | 57=>262 | 63=>276 | 64=>277 | n=>n,fun | n=>n⟩
theorem Tryz.sort:Go.Proofs.SlLaysM.n5 Tryz.prog Tryz.sort_ren:={
  mixed:=by kernel_rfl
  f5:=⟨Tryz.f124.name,by decide,Tryz.func124.trans (congrArg some (by kernel_rfl))⟩
  f7:=⟨Tryz.f169.name,by decide,Tryz.func169.trans (congrArg some (by kernel_rfl))⟩
  f8:=Tryz.func170.trans (congrArg some (by kernel_rfl))
  f10:=⟨Tryz.f188.name,by decide,Tryz.func188.trans (congrArg some (by kernel_rfl))⟩
  f11:=⟨Tryz.f189.name,by decide,Tryz.func189.trans (congrArg some (by kernel_rfl))⟩
  f12:=⟨Tryz.f190.name,by decide,Tryz.func190.trans (congrArg some (by kernel_rfl))⟩
  f13:=⟨Tryz.f191.name,by decide,Tryz.func191.trans (congrArg some (by kernel_rfl))⟩
  f14:=⟨Tryz.f192.name,by decide,Tryz.func192.trans (congrArg some (by kernel_rfl))⟩
  f15:=⟨Tryz.f193.name,by decide,Tryz.func193.trans (congrArg some (by kernel_rfl))⟩
  f16:=⟨Tryz.f172.name,by decide,Tryz.func172.trans (congrArg some (by kernel_rfl))⟩
  f17:=⟨Tryz.f194.name,by decide,Tryz.func194.trans (congrArg some (by kernel_rfl))⟩
  f18:=⟨Tryz.f195.name,by decide,Tryz.func195.trans (congrArg some (by kernel_rfl))⟩
  f19:=Tryz.func196.trans (congrArg some (by kernel_rfl))
  f20:=Tryz.func197.trans (congrArg some (by kernel_rfl))
  f30:=⟨Tryz.f212.name,by decide,Tryz.func212.trans (congrArg some (by kernel_rfl))⟩
  f31:=Tryz.func213.trans (congrArg some (by kernel_rfl))
  f32:=Tryz.func214.trans (congrArg some (by kernel_rfl))
  f33:=⟨Tryz.f215.name,by decide,Tryz.func215.trans (congrArg some (by kernel_rfl))⟩
  f34:=⟨Tryz.f216.name,by decide,Tryz.func216.trans (congrArg some (by kernel_rfl))⟩
  f35:=⟨Tryz.f198.name,by decide,Tryz.func198.trans (congrArg some (by kernel_rfl))⟩
  f40:=⟨Tryz.f232.name,by decide,Tryz.func232.trans (congrArg some (by kernel_rfl))⟩
  t0:=Tryz.underlying0
  a0:=Tryz.isAgg0
  z0:=Tryz.sizeOf0
  v0:=Tryz.zeroValue0
  t3:=Tryz.underlying3
  a3:=Tryz.isAgg3
  z3:=Tryz.sizeOf3
  v3:=Tryz.zeroValue3
  t4:=Tryz.underlying4
  a4:=Tryz.isAgg4
  z4:=Tryz.sizeOf4
  v4:=Tryz.zeroValue4
  t5:=Tryz.underlying5
  a5:=Tryz.isAgg5
  z5:=Tryz.sizeOf5
  v5:=Tryz.zeroValue5
  t9:=Tryz.underlying9
  a9:=Tryz.isAgg9
  z9:=Tryz.sizeOf9
  v9:=Tryz.zeroValue9
  t22:=Tryz.underlying44
  a22:=Tryz.isAgg44
  z22:=Tryz.sizeOf44
  v22:=Tryz.zeroValue44
  t23:=Tryz.underlying44
  a23:=Tryz.isAgg44
  z23:=Tryz.sizeOf44
  v23:=Tryz.zeroValue44
  t25:=Tryz.underlying3
  a25:=Tryz.isAgg3
  z25:=Tryz.sizeOf3
  v25:=Tryz.zeroValue3
  t32:=Tryz.underlying222
  a32:=Tryz.isAgg222
  z32:=Tryz.sizeOf222
  v32:=Tryz.zeroValue222
  t35:=Tryz.underlying239
  a35:=Tryz.isAgg239
  z35:=Tryz.sizeOf239
  v35:=Tryz.zeroValue239
  t36:=Tryz.underlying240
  a36:=Tryz.isAgg240
  z36:=Tryz.sizeOf240
  v36:=Tryz.zeroValue240
  t41:=Tryz.underlying115
  a41:=Tryz.isAgg115
  z41:=Tryz.sizeOf115
  v41:=Tryz.zeroValue115
  t44:=Tryz.underlying246
  a44:=Tryz.isAgg246
  z44:=Tryz.sizeOf246
  v44:=Tryz.zeroValue246
  t46:=Tryz.underlying151
  a46:=Tryz.isAgg151
  z46:=Tryz.sizeOf151
  v46:=Tryz.zeroValue151
  t53:=Tryz.underlying259
  a53:=Tryz.isAgg259
  z53:=Tryz.sizeOf259
  v53:=Tryz.zeroValue259
  t57:=Tryz.underlying262
  a57:=Tryz.isAgg262
  z57:=Tryz.sizeOf262
  v57:=Tryz.zeroValue262
  t63:=Tryz.underlying276
  a63:=Tryz.isAgg276
  z63:=Tryz.sizeOf276
  v63:=Tryz.zeroValue276
  t64:=Tryz.underlying277
  a64:=Tryz.isAgg277
  z64:=Tryz.sizeOf277
  v64:=Tryz.zeroValue277 }
end Go.Proofs

namespace Go.Proofs.YtifekogdhjabaaaGreatDoor
open Go.RowKit Go.PK
open Go.Maps Go.Sort Go.Shelf
theorem sortsA (m:Nat):AnyZI.SortsIn Tryz.prog Tryz.sorted_ren Fence.wide m :=
 ⟨fun blk off cap ss W hH hblk hsz=>callsIn_wide.2 (AnyM.slices_Sort_int Tryz.sort blk off cap ss W hH hblk hsz),
  fun p cap W=>callsIn_wide.2 (AnyM.slices_Sort_int_none Tryz.sort p cap W)⟩
theorem g_KeysO (mb:Option Nat) (w:World):Calls Tryz.prog 66 #[.map mb] w fun e w'=>∃ Bm:Nat,e=.returned (.func (.func 125) #[] #[Pt Bm])∧Later w w'∧Mem w' [(Bm,Obj.cells #[.map mb] 36)] [(w,fun _=>True)] :=
 ((callsIn_wide (n:=5)).1 (AnyZI.keys_in Tryz.keysO Fence.wide 5 trivial rfl mb w)).mono fun e w' ⟨h1,h2⟩=>⟨w.heap.size,h1,by rw [h2]; exact Later.alloc w _,by rw [h2]; exact (Mem.init w).new _⟩
theorem zk {es:Array MapEntry} {ck:Nat} {Φ:Value→Option Value} {ids:List Int} (Bm b:Nat) (w:World) (hBm:w.cell? ⟨Bm,0,none⟩=some (.map (some b))) (hb:w.heap[b]?=some (.map es ck)) (hC:MapC Tryz.prog 3 es ck Φ) (hk:fY Φ ids) (hs:ids.Pairwise (· < ·)) (hn:ids.length≤1000000) (hin:∀ n∈ids,aj n) :
  Calls Tryz.prog 65 #[.func (.func 125) #[] #[Pt Bm]] w fun e w'=>∃ v,e=.returned v∧Later w w'∧ab i8 (fun b=>w.heap.size≤b) w' v ids:=by
 obtain ⟨D,hD1,hD2,hD3⟩:=hC.owns hk u3 (by unfold maxLen; omega) hb
 have hseq:SeqGives Fence.wide 2 Tryz.prog 125 #[Pt Bm] encZ (fun ss=>ss.Perm (intKeys D)) (Maps.size D) w :=
  AnyZI.keys_gives (ρ:=Tryz.keysO_ren) { Tryz.keysO with } Fence.wide _ trivial rfl (by omega) Bm b _ D w (eu (p:=⟨Bm,0,none⟩) hBm) hBm hD1
 have cS:=AnyZI.sorted_in Tryz.sorted Fence.wide 5 trivial trivial trivial trivial rfl (by omega) (sortsA _) (enters_of Tryz.func124 Zk rfl) 125 #[Pt Bm] trivial (enters_of Tryz.func125 Zk rfl) _ _ (by rw [hD2]; unfold maxLen; omega) (by rw [hD2]; omega) _ hseq
 change CallsIn _ _ Tryz.prog 65 _ _ _ at cS
 refine ((callsIn_wide (n:=5)).1 cS).mono ?_
 rintro e w' ⟨v,ss,rfl,hp,hrow,_,hbel⟩
 have hp2:=hp.trans hD3
 rw [uy hp2 hs,hp2.length_eq] at hrow
 exact ⟨v,rfl,⟨hbel.os,hbel.tape,hbel.output,hbel.size,hbel.block⟩,xK hrow hin⟩
theorem xR (mb:Option Nat) (w:World):Calls Tryz.prog 68 #[.map mb] w fun e w'=>∃ Bm:Nat,e=.returned (.func (.func 126) #[] #[Pt Bm])∧Later w w'∧Mem w' [(Bm,Obj.cells #[.map mb] 123)] [(w,fun _=>True)] :=
 ((callsIn_wide (n:=5)).1 (AnyZI.keys_in Tryz.keysF Fence.wide 5 trivial rfl mb w)).mono fun e w' ⟨h1,h2⟩=>⟨w.heap.size,h1,by rw [h2]; exact Later.alloc w _,by rw [h2]; exact (Mem.init w).new _⟩
theorem zU {es:Array MapEntry} {ck:Nat} {Φ:Value→Option Value} {ids:List Int} (Bm b:Nat) (w:World) (hBm:w.cell? ⟨Bm,0,none⟩=some (.map (some b))) (hb:w.heap[b]?=some (.map es ck)) (hC:MapC Tryz.prog 3 es ck Φ) (hk:fY Φ ids) (hs:ids.Pairwise (· < ·)) (hn:ids.length≤1000000) (hin:∀ n∈ids,aj n) :
  Calls Tryz.prog 65 #[.func (.func 126) #[] #[Pt Bm]] w fun e w'=>∃ v,e=.returned v∧Later w w'∧ab i8 (fun b=>w.heap.size≤b) w' v ids:=by
 obtain ⟨D,hD1,hD2,hD3⟩:=hC.owns hk u3 (by unfold maxLen; omega) hb
 have hseq:SeqGives Fence.wide 2 Tryz.prog 126 #[Pt Bm] encZ (fun ss=>ss.Perm (intKeys D)) (Maps.size D) w :=
  AnyZI.keys_gives (ρ:=Tryz.keysF_ren) { Tryz.keysF with } Fence.wide _ trivial rfl (by omega) Bm b _ D w (eu (p:=⟨Bm,0,none⟩) hBm) hBm hD1
 have cS:=AnyZI.sorted_in Tryz.sorted Fence.wide 5 trivial trivial trivial trivial rfl (by omega) (sortsA _) (enters_of Tryz.func124 Zk rfl) 126 #[Pt Bm] trivial (enters_of Tryz.func126 Zk rfl) _ _ (by rw [hD2]; unfold maxLen; omega) (by rw [hD2]; omega) _ hseq
 change CallsIn _ _ Tryz.prog 65 _ _ _ at cS
 refine ((callsIn_wide (n:=5)).1 cS).mono ?_
 rintro e w' ⟨v,ss,rfl,hp,hrow,_,hbel⟩
 have hp2:=hp.trans hD3
 rw [uy hp2 hs,hp2.length_eq] at hrow
 exact ⟨v,rfl,⟨hbel.os,hbel.tape,hbel.output,hbel.size,hbel.block⟩,xK hrow hin⟩
open Go.RowKit Go.PK
theorem g_All {pO mO:Nat} {es:Array MapEntry} {ck:Nat} {Φ:Value→Option Value} {ids:List Int} (hk:fY Φ ids) (hs:ids.Pairwise (· < ·)) (hn:ids.length≤1000000) (hin:∀ n∈ids,aj n) (w:World) (hC:MapC Tryz.prog 3 es ck (Φ)) (h1:w.cell? ⟨pO,2,none⟩=some (.map (some mO))) (h2:w.heap[mO]?=some (.map es ck)) :
  Calls Tryz.prog 20 #[Pt pO] w fun e w'=>∃ v,e=.returned v∧Later w w'∧ab i8 (fun b=>w.heap.size≤b) w' v ids:=by
 refine enter Tryz.func20 rfl Tryz.ntmps20 rfl ?_
 refine Rn [3,1,2,5,3,0,52,2,10] (Aw (fun hc4=>?_) fun hc4=>?_)
 ·cases hc4
 refine Rn [23,0,11,4] ?_
 refine Xl rfl oc rfl (an (.head _) trivial h1) ?_
 refine fq (τ:=Nat) (fun Bm=>.func (.func 125) #[] #[Pt Bm]) (fun _=>True) (fun Bm=>[(Bm,Obj.cells #[.map (some mO)] 36)]) rfl rfl rfl Tryz.func66 Zk rfl (fun w1 hw1=>(g_KeysO (some mO) w1).mono fun e w2 ⟨Bm,h1,h2,h3⟩=>⟨Bm,h1,h2,trivial,(hw1.join2 h3).to (by simp)⟩) fun Bm _=>?_
 refine Xd (R:=fun v wa wb=>ab i8 (fun b=>wa.heap.size≤b) wb v ids) rfl Tryz.func65 rfl (fun w1 hw1=>(zk Bm mO w1 (aa (vs:=[.map (some mO)]) (.head _) rfl w1 hw1) ((hw1.b.block mO (dS h2)).trans h2) hC hk hs hn hin).mono fun e w2 ⟨v,h1,h2,h3⟩=>⟨v,h1,h2,h3⟩) fun v10 wa10 wb10 hm10 hl10 hR10=>?_
 refine Rn [1,2,6] ?_
 exact aw rfl rfl (fun w' hm=>⟨_,rfl,hm.b,hR10.keep (aV.made0 hm hm10 (by simp) (by simp))⟩)
theorem g_EncO {pO mO:Nat} {es:Array MapEntry} {ck:Nat} {L:List EN} (w:World) (hs:lc L) (hn:L.length≤5000) (hen:∀ e∈L,xC e) (hC:MapC Tryz.prog 3 es ck (fR L)) (h1:w.cell? ⟨pO,2,none⟩=some (.map (some mO))) (h2:w.heap[mO]?=some (.map es ck)) :
  Calls Tryz.prog 18 #[Pt pO] w fun e w'=>e=.returned (.string ⟨(cF (jG L)).toArray⟩)∧Later w w':=by
 refine enter Tryz.func18 rfl Tryz.ntmps18 rfl ?_
 refine Rn [3,1,2,5,3,0,52,2,10] (Aw (fun hc8=>?_) fun hc8=>?_)
 ·cases hc8
 refine Rn [23,1,2,5,3,0] ?_
 refine Xd (R:=fun v wa wb=>ab i8 (fun b=>wa.heap.size≤b) wb v (L.map (·.1.id))) rfl Tryz.func20 rfl (fun w1 hw1=>(g_All (ids:=(L.map (·.1.id))) (pj hs) (xO hs) (by rw [List.length_map]; omega) (wc hen) w1 hC (an (.head _) trivial h1 w1 hw1) ((hw1.b.block mO (dS h2)).trans h2)).mono fun e w2 ⟨v,h1,h2,h3⟩=>⟨v,h1,h2,h3⟩) fun v10 wa10 wb10 hm10 hl10 hR10=>?_
 obtain ⟨A10,c10,rfl,_⟩:=id hR10
 have hlen:(L.map (·.1.id)).length=L.length:=List.length_map _
 rw [hlen] at hR10 ⊢
 refine Rn [31,0,2,14] ?_
 refine aO (σ:=Nat×ak) (fun x=>x.1≤L.length∧ag 1 x.2 (x.1*10) ((jG (L.take x.1)).map (Value.int .i64))) (fun x=>[(0,Pt pO),(3,au x.2 (x.1*10)),(10,Value.slice A10 L.length c10),(11,Vi (L.length:Nat)),(12,Vi (x.1:Nat))]) (fun x=>aA 3 x.2) (fun x=>[(wb10,a7 []),(w,fun _=>True)]) (fun x=>L.length - x.1) ((0,none)) (⟨Nat.zero_le _,bG⟩) (aC Zu (fun _ h=>h)) ?_
 rintro ⟨k,R⟩ ⟨hkL,hR⟩
 refine Rn [144] ?_
 dsimp only at hkL hR
 refine Rn [3,24,2,5,12] fun b13 hb13=>Aw (fun hc13=>?_) fun hc13=>?_
 ·have hkl:k < L.length:=by omega
  obtain ⟨b0,o0,hA0,hD0,hc0,hin0⟩:=fW hR10 (k:=k) (by rw [List.length_map]; exact hkl)
  have hlk:=lkL_at hs hkl
  rw [List.getElem_map] at hc0 hin0
  refine Rn [16,5,14,3] ?_
  refine Xv rfl (ae ij cT (congrArg (fun A=>some (Value.slice A L.length c10)) hA0) rfl Zo rfl) (Xl rfl u3 rfl (an (.head _) (fun q hq=>by cases hq) (by rw [Nat.mul_one]; exact hc0)) ?_)
  refine Rn [1,9,0,11,4] ?_
  refine Xl rfl oc rfl (an (.tail _ (.head _)) trivial h1) (Xm ?_)
  refine Xv (v:=yV L[k].1 L[k].2) rfl (cw oc (Maps.int_keyed u3) f0 rfl rfl (Maps.keyOf_int_mk u3 (cG hin0)) (ju (.tail _ (.head _)) trivial h2) hC.f (by rw [cd,hlk]; rfl)) ?_
  refine Rn [28,32,2,18,0,4,4,7,4,4,7,4,4,4,7,4,4,4,7,4,4,7,4,4,7,4,4,7,4,4,7,4,4,7,4,7] fun p6=>?_
  refine ac (cs:=[Vi L[k].1.id,Vi L[k].1.fund,Vi L[k].1.src,Vi L[k].1.num,Vi L[k].1.copies,Vi L[k].1.price,Vi L[k].1.prom,Vi L[k].1.paid,Vi L[k].1.st,Vi L[k].2]) rfl rfl rfl ij cT rP rfl rfl rfl ?_
  intro p54
  refine be (e:=3) [(Bk p54 ([Vi L[k].1.id,Vi L[k].1.fund,Vi L[k].1.src,Vi L[k].1.num,Vi L[k].1.copies,Vi L[k].1.price,Vi L[k].1.prom,Vi L[k].1.paid,Vi L[k].1.st,Vi L[k].2]) 3),(Bk p6 (bu L[k].1 L[k].2) 100)] (l2:=[]) R (len:=k*10) (xs:=((jG (L.take k)).map (Value.int .i64))) rfl rfl rfl rfl (by simp only [List.append_nil]; rfl) hR ij ap3 rfl rfl (m:=10) (news:=[Vi L[k].1.id,Vi L[k].1.fund,Vi L[k].1.src,Vi L[k].1.num,Vi L[k].1.copies,Vi L[k].1.price,Vi L[k].1.prom,Vi L[k].1.paid,Vi L[k].1.st,Vi L[k].2]) (fun i hi=>aa (vs:=[Vi L[k].1.id,Vi L[k].1.fund,Vi L[k].1.src,Vi L[k].1.num,Vi L[k].1.copies,Vi L[k].1.price,Vi L[k].1.prom,Vi L[k].1.paid,Vi L[k].1.st,Vi L[k].2]) (.head _) (by rw [Nat.zero_add]; exact List.getElem?_eq_getElem hi)) rfl Zx (by omega) fun R' hR'=>?_
  rw [List.append_nil]
  refine Rn [1,13,27,17,18,26,0,13] ?_
  exact aJ (x:=(k,R)) (μ:=fun q:Nat×ak=>L.length - q.1) (k+1,R') ⟨hkl,by dsimp only; rw [jG,ks Ai hkl,List.map_append,show (k+1)*10=k*10+10 by omega]; exact hR'⟩ (by simp only; omega) (by dsimp only; rw [show (k+1)*10=k*10+10 by omega]; exact Zu) (fun w1 h=>h.less (((List.Sublist.refl _).cons _).cons _) (fun _ h=>h))
 obtain rfl:k=L.length:=by omega
 rw [List.take_length] at hR
 refine Rn [34,19,19,35,17,3,0] ?_
 refine Xc (v:=Value.string ⟨(cF (jG L)).toArray⟩) rfl Tryz.func64 rfl (fun w1 hw1=>c_Ints w1 (dy (D:=fun _=>True) (e:=3) hR (j5 L).symm (xQ hen) hw1 (fun q hq=>hq) (fun _ _=>trivial)) (by rw [j5]; omega)) ?_
 refine Rn [1,2,6] ?_
 refine aw rfl rfl (fun w' hm=>⟨?_,hm.b⟩)
 rfl
open Go.RowKit Go.PK
theorem g_PlaceW {w:World} {L:List (Nat×Obj)} {ro:List av} {mF pF pO mO ckF ckO:Nat} {esF esO:Array MapEntry} {money:Int} {ms:List FM} {s:SG} (hm:Mem w ((Bk pO (cJ pF s.tol mO) 38)::(mO,Obj.map esO ckO)::(mF,Obj.map esF ckF)::(Bk pF (bP mF money) 125)::(FB 130 ms++L)) ro) (hF:MapF Tryz.prog 3 esF (cC ms)) (hO:MapC Tryz.prog 3 esO ckO (fR s.L)) (hfs:bW ms=s.fs) (hok:SGok s) {ws:World} (hws:(ws,fun _=>True)∈ro) (hL:LD ws) (y:PK.Ord) (hy:y.okA) (hw:bV y=false) :
  Calls Tryz.prog 12 #[Pt pO,.agg y.cells.toArray] w fun e w'=>e=.returned (Vi (aD s y).1)∧∃ q:Array MapEntry×Nat×List FM,(MapC Tryz.prog 3 q.1 q.2.1 (fR (aD s y).2.L)∧bW q.2.2=(aD s y).2.fs∧cC q.2.2=cC ms∧(aD s y).2.tol=s.tol)∧Mem w' ((Bk pO (cJ pF s.tol mO) 38)::(mO,Obj.map q.1 q.2.1)::(mF,Obj.map esF ckF)::(Bk pF (bP mF money) 125)::(FB 130 q.2.2++L)) ro:=by
 refine ay hm Tryz.func12 rfl Tryz.ntmps12 rfl ?_
 refine Rn [3,36,1,2,5,3,0,62,0] fun p3 b9 hb9=>?_
 refine fV [] rfl rfl rfl rfl rfl (v:=Value.agg y.cells.toArray) (fun hg=>by obtain ⟨hg0,_⟩:=hg; subst hg0; (try simp only [Qy]); exact bS (b:=p3) (e:=25) (fz:=(0,0)) (cs:=y.cells.toArray) f4 rfl rfl (.head _) cm) ?_
 refine cQ [] (c:=bV y) rfl rfl rfl rfl rfl Tryz.func51 Zk (fun hg=>by obtain ⟨hg0,_⟩:=hg; subst hg0; (try simp only [Qy]); refine ⟨_,rfl,?_⟩; exact fun w1 hw1=>AE y w1 hy (hL.later (hw1.base (by first | exact hws | exact .tail _ hws | exact .tail _ (.tail _ hws) | exact .tail _ (.tail _ (.tail _ hws)))))) fun b12 hb12=>?_
 refine Rn [64,25,2,10] fun b13 hb13 b14 hb14=>Aw (fun hc14=>?_) fun hc14=>?_
 ·simp only [hb14,hb13,Qz,ne_eq] at hc14
  refine Rn [3,1,2,6,8] ?_
  refine aw rfl rfl (fun w' hm'=>?_)
  rw [show (aD s y)=(1,s) from by unfold aD; rw [if_pos hw]]
  exact ⟨rfl,(esO,ckO,ms),⟨hO,hfs,rfl,rfl⟩,hm'.less Ls (fun _ h=>h)⟩
 exfalso
 rw [hb14,hb13,hb12,hb9,hw] at hc14
 revert hc14; simp
theorem g_PlaceT {w:World} {L:List (Nat×Obj)} {ro:List av} {mF pF pO mO ckF ckO:Nat} {esF esO:Array MapEntry} {money:Int} {ms:List FM} {s:SG} (hm:Mem w ((Bk pO (cJ pF s.tol mO) 38)::(mO,Obj.map esO ckO)::(mF,Obj.map esF ckF)::(Bk pF (bP mF money) 125)::(FB 130 ms++L)) ro) (hF:MapF Tryz.prog 3 esF (cC ms)) (hO:MapC Tryz.prog 3 esO ckO (fR s.L)) (hfs:bW ms=s.fs) (hok:SGok s) {ws:World} (hws:(ws,fun _=>True)∈ro) (hL:LD ws) (y:PK.Ord) (hy:y.okA) {x:PK.Ord} {first:Int} (hw:bV y=true) (hl:cq s.L y.id=some (x,first)) :
  Calls Tryz.prog 12 #[Pt pO,.agg y.cells.toArray] w fun e w'=>e=.returned (Vi (aD s y).1)∧∃ q:Array MapEntry×Nat×List FM,(MapC Tryz.prog 3 q.1 q.2.1 (fR (aD s y).2.L)∧bW q.2.2=(aD s y).2.fs∧cC q.2.2=cC ms∧(aD s y).2.tol=s.tol)∧Mem w' ((Bk pO (cJ pF s.tol mO) 38)::(mO,Obj.map q.1 q.2.1)::(mF,Obj.map esF ckF)::(Bk pF (bP mF money) 125)::(FB 130 q.2.2++L)) ro:=by
 refine ay hm Tryz.func12 rfl Tryz.ntmps12 rfl ?_
 refine Rn [3,36,1,2,5,3,0,62,0] fun p3 b9 hb9=>?_
 refine fV [] rfl rfl rfl rfl rfl (v:=Value.agg y.cells.toArray) (fun hg=>by obtain ⟨hg0,_⟩:=hg; subst hg0; (try simp only [Qy]); exact bS (b:=p3) (e:=25) (fz:=(0,0)) (cs:=y.cells.toArray) f4 rfl rfl (.head _) cm) ?_
 refine cQ [] (c:=bV y) rfl rfl rfl rfl rfl Tryz.func51 Zk (fun hg=>by obtain ⟨hg0,_⟩:=hg; subst hg0; (try simp only [Qy]); refine ⟨_,rfl,?_⟩; exact fun w1 hw1=>AE y w1 hy (hL.later (hw1.base (by first | exact hws | exact .tail _ hws | exact .tail _ (.tail _ hws) | exact .tail _ (.tail _ (.tail _ hws)))))) fun b12 hb12=>?_
 refine Rn [64,25,2,10] fun b13 hb13 b14 hb14=>Aw (fun hc14=>?_) fun hc14=>?_
 ·exfalso
  rw [hb14,hb13,hb12,hb9,hw] at hc14
  revert hc14; simp
 simp only [hb14,hb13,Qz,ne_eq] at hc14
 refine Rn [16,5,5] ?_
 refine cL ((Bk p3 y.cells 25)::(Bk pO (cJ pF s.tol mO) 38)::(mO,Obj.map esO ckO)::(mF,Obj.map esF ckF)::(Bk pF (bP mF money) 125)::(FB 130 ms++L)) 13 (.flt 0 (.flt 1 (.flt 2 (.flt 3 (.flt 4 (.flt 5 (.flt 6 (.flt 7 (.flt 8 (.flt 9 (.gr 10 (.gr 11 (.flt 12 .done) .nil) .nil))))))))))) (.refl _) Zk Zk ?_
 refine Rn [44,65,41,49,41,49] ?_
 refine dq (v:=Value.tuple #[yV x first,.bool true]) rfl rfl (cI oc (Maps.int_keyed u3) f0 rfl rfl (Maps.keyOf_int_mk u3 (cG hy.1.1)) (cf (.tail _ (.tail _ (.head _)))) hO.f (by rw [cd,hl]; rfl) (by rw [cd,hl]; rfl)) ?_
 refine Rn [44,77,78,42,28,13,58,42,32,13,58,55,56,9,0,2,10] fun b24 hb24 p5=>Aw (fun hc25=>?_) fun hc25=>?_
 ·simp only [hb24,Qz,ne_eq] at hc25
  refine Rn [3,1,2,6,8] ?_
  refine aw rfl rfl (fun w' hm'=>?_)
  rw [show (aD s y)=(22,s) from by unfold aD; rw [if_neg (by rw [hw]; decide),if_pos (by rw [hl]; rfl)]]
  exact ⟨rfl,(esO,ckO,ms),⟨hO,hfs,rfl,rfl⟩,hm'.less (Ls.trans Ls) (fun _ h=>h)⟩
 exfalso
 rw [hb24] at hc25
 revert hc25; simp
theorem g_PlaceF {w:World} {L:List (Nat×Obj)} {ro:List av} {mF pF pO mO ckF ckO:Nat} {esF esO:Array MapEntry} {money:Int} {ms:List FM} {s:SG} (hm:Mem w ((Bk pO (cJ pF s.tol mO) 38)::(mO,Obj.map esO ckO)::(mF,Obj.map esF ckF)::(Bk pF (bP mF money) 125)::(FB 130 ms++L)) ro) (hF:MapF Tryz.prog 3 esF (cC ms)) (hO:MapC Tryz.prog 3 esO ckO (fR s.L)) (hfs:bW ms=s.fs) (hok:SGok s) {ws:World} (hws:(ws,fun _=>True)∈ro) (hL:LD ws) (y:PK.Ord) (hy:y.okA) (hw:bV y=true) (hl:cq s.L y.id=none) (hlen:s.L.length≤4000) :
  Calls Tryz.prog 12 #[Pt pO,.agg y.cells.toArray] w fun e w'=>e=.returned (Vi (aD s y).1)∧∃ q:Array MapEntry×Nat×List FM,(MapC Tryz.prog 3 q.1 q.2.1 (fR (aD s y).2.L)∧bW q.2.2=(aD s y).2.fs∧cC q.2.2=cC ms∧(aD s y).2.tol=s.tol)∧Mem w' ((Bk pO (cJ pF s.tol mO) 38)::(mO,Obj.map q.1 q.2.1)::(mF,Obj.map esF ckF)::(Bk pF (bP mF money) 125)::(FB 130 q.2.2++L)) ro:=by
 have hfk:∀ f∈bW ms,aR f.s:=by rw [hfs]; exact hok.fs
 have hwo:=(bB y).1 hw
 unfold ej at hwo
 obtain ⟨⟨y1,y2⟩,⟨y3,y4⟩,_,_,⟨y5,y6⟩,y7,y8⟩:=hwo
 obtain ⟨⟨k1,k2⟩,_⟩:=oP (c:=y.copies) (p:=y.price) (q:=y.price) ⟨y7,y8⟩ ⟨y5,y6⟩ ⟨y5,y6⟩
 have hsz:esO.size=s.L.length:=(hO.size (pj hok.srt)).trans (List.length_map _)
 refine ay hm Tryz.func12 rfl Tryz.ntmps12 rfl ?_
 refine Rn [3,36,1,2,5,3,0,62,0] fun p3 b9 hb9=>?_
 refine fV [] rfl rfl rfl rfl rfl (v:=Value.agg y.cells.toArray) (fun hg=>by obtain ⟨hg0,_⟩:=hg; subst hg0; (try simp only [Qy]); exact bS (b:=p3) (e:=25) (fz:=(0,0)) (cs:=y.cells.toArray) f4 rfl rfl (.head _) cm) ?_
 refine cQ [] (c:=bV y) rfl rfl rfl rfl rfl Tryz.func51 Zk (fun hg=>by obtain ⟨hg0,_⟩:=hg; subst hg0; (try simp only [Qy]); refine ⟨_,rfl,?_⟩; exact fun w1 hw1=>AE y w1 hy (hL.later (hw1.base (by first | exact hws | exact .tail _ hws | exact .tail _ (.tail _ hws) | exact .tail _ (.tail _ (.tail _ hws)))))) fun b12 hb12=>?_
 refine Rn [64,25,2,10] fun b13 hb13 b14 hb14=>Aw (fun hc14=>?_) fun hc14=>?_
 ·exfalso
  rw [hb14,hb13,hb12,hb9,hw] at hc14
  revert hc14; simp
 simp only [hb14,hb13,Qz,ne_eq] at hc14
 refine Rn [16,5,5] ?_
 refine cL ((Bk p3 y.cells 25)::(Bk pO (cJ pF s.tol mO) 38)::(mO,Obj.map esO ckO)::(mF,Obj.map esF ckF)::(Bk pF (bP mF money) 125)::(FB 130 ms++L)) 13 (.flt 0 (.flt 1 (.flt 2 (.flt 3 (.flt 4 (.flt 5 (.flt 6 (.flt 7 (.flt 8 (.flt 9 (.gr 10 (.gr 11 (.flt 12 .done) .nil) .nil))))))))))) (.refl _) Zk Zk ?_
 refine Rn [44,65,41,49,41,49] ?_
 refine dq (v:=Value.tuple #[.agg (bu co 0).toArray,.bool false]) rfl rfl (cI oc (Maps.int_keyed u3) f0 rfl rfl (Maps.keyOf_int_mk u3 (cG hy.1.1)) (cf (.tail _ (.tail _ (.head _)))) hO.f (by rw [cd,hl]; rfl) (by rw [cd,hl]; rfl)) ?_
 refine Rn [44,77,78,42,28,13,58,42,32,13,58,55,56,9,0,2,10] fun b24 hb24 p5=>Aw (fun hc25=>?_) fun hc25=>?_
 ·exfalso
  rw [hb24] at hc25
  revert hc25; simp
 simp only [hb24,Qz,ne_eq] at hc25
 refine Rn [16,5,3,0,11,4,7] ?_
 refine Xv (v:=Vi (s.L.length:Nat)) rfl (by rw [← hsz]; exact qV (es:=esO) (clock:=ckO) oc rfl (.tail _ (.tail _ (.tail _ (.head _))))) ?_
 refine Rn [57,2,10] fun b31 hb31=>Aw (fun hc31=>?_) fun hc31=>?_
 ·exfalso
  rw [hb31] at hc31
  have:=of_decide_eq_true hc31
  omega
 simp only [hb31,Qz,ne_eq] at hc31
 refine Rn [16,5,5] ?_
 refine bc 11 ?_
 refine Rn [0,11,4,7,4,7,4,7,4,7] ?_
 refine Xv rfl (cY rfl rfl rfl Zo) ?_
 refine aI (τ:=List FM) (v:=Vi (ap bJ (bW ms) y.fund ((y.copies*y.price))).1) (fun q=>bW q=(ap bJ (bW ms) y.fund ((y.copies*y.price))).2∧cC q=cC ms) (fun q=>(Bk p5 (bu co 0) 100)::(Bk p3 y.cells 25)::(Bk pO (cJ pF s.tol mO) 38)::(mO,Obj.map esO ckO)::(mF,Obj.map esF ckF)::(Bk pF (bP mF money) 125)::(FB 130 q++L)) rfl rfl Tryz.func52 Zk rfl (fun w1 hw1=>g_enc (l1:=[(Bk p5 (bu co 0) 100),(Bk p3 y.cells 25),(Bk pO (cJ pF s.tol mO) 38),(mO,Obj.map esO ckO),(mF,Obj.map esF ckF),(Bk pF (bP mF money) 125)]) (ms:=ms) hw1 hF Zh Zh hfk (y.fund) (by unfold aj; omega) ((y.copies*y.price))) fun m43 hm43=>?_
 refine Rn [1,9,0,37,2,12] fun b45 hb45=>Aw (fun hc45=>?_) fun hc45=>?_
 ·refine Rn [3,0,1,2,6,8] ?_
  refine aw rfl rfl (fun w' hm'=>?_)
  have hf1:(ap bJ (bW ms) y.fund (y.copies*y.price)).2=bW ms:=im vI hc45
  rw [show (aD s y)=((ap bJ (bW ms) y.fund (y.copies*y.price)).1,s) from by unfold aD; rw [if_neg (by rw [hw]; decide),if_neg (by rw [hl]; decide),← hfs,if_pos hc45]]
  exact ⟨rfl,(esO,ckO,m43),⟨hO,hm43.1.trans (hf1.trans hfs),hm43.2,rfl⟩,hm'.less (Ls.trans Ls) (fun _ h=>h)⟩
 refine Rn [23,4,7,4] ?_
 refine aG (cs:=y.cells) (off:=6) (e:=25) (l2:=(Bk pO (cJ pF s.tol mO) 38)::(mO,Obj.map esO ckO)::(mF,Obj.map esF ckF)::(Bk pF (bP mF money) 125)::(FB 130 m43++L)) [(Bk p5 (bu co 0) 100)] rfl rfl rfl rfl cT rfl (by show 7≤9; decide) ?_
 refine Rn [4] ?_
 refine aG (cs:=PK.Ord.cells { y with prom:=y.copies }) (off:=7) (e:=25) (l2:=(Bk pO (cJ pF s.tol mO) 38)::(mO,Obj.map esO ckO)::(mF,Obj.map esF ckF)::(Bk pF (bP mF money) 125)::(FB 130 m43++L)) [(Bk p5 (bu co 0) 100)] rfl rfl rfl rfl cT rfl (by show 8≤9; decide) ?_
 refine Rn [4] ?_
 refine aG (cs:=PK.Ord.cells { y with prom:=y.copies,paid:=0 }) (off:=8) (e:=25) (l2:=(Bk pO (cJ pF s.tol mO) 38)::(mO,Obj.map esO ckO)::(mF,Obj.map esF ckF)::(Bk pF (bP mF money) 125)::(FB 130 m43++L)) [(Bk p5 (bu co 0) 100)] rfl rfl rfl rfl cT rfl (by show 9≤9; decide) ?_
 refine Rn [2,5] ?_
 refine ey _ ((Bk p5 (bu co 0) 100)::(p3,Obj.cells (bm y).cells.toArray 25)::(Bk pO (cJ pF s.tol mO) 38)::(mO,Obj.map esO ckO)::(mF,Obj.map esF ckF)::(Bk pF (bP mF money) 125)::(FB 130 m43++L)) _ ?_
 refine Rn [18,0,39,4,7] ?_
 refine Xv (v:=Value.agg (bu (bm y) y.price).toArray) rfl (aH (cs:=bu (bm y) y.price) (places:=[(0,9),(9,1)]) Aa f0 Zk rfl rfl) ?_
 refine aI (τ:=Array MapEntry×Nat) (v:=Value.tuple #[]) (fun q=>MapC Tryz.prog 3 q.1 q.2 (fR (fm s.L ((bm y),y.price)))) (fun q=>[(Bk p5 (bu co 0) 100),(p3,Obj.cells (bm y).cells.toArray 25)]++(Bk pO (cJ pF s.tol mO) 38)::(mO,Obj.map q.1 q.2)::(mF,Obj.map esF ckF)::(Bk pF (bP mF money) 125)::(FB 130 m43++L)) rfl rfl Tryz.func53 Zk rfl (fun w1 hw1=>(xN (l1:=[(Bk p5 (bu co 0) 100),(p3,Obj.cells (bm y).cells.toArray 25)]) (bm y) y.price hw1 hO hy.1.1).mono fun e w2 ⟨h1,q,h2,h3⟩=>⟨h1,q,by rw [← (AP (y:=((bm y),y.price)) hl)]; exact h2,h3⟩) fun q57 hq57=>?_
 refine Rn [9,1,2,6] ?_
 refine aw rfl rfl (fun w' hm'=>?_)
 rw [show (aD s y)=(0,⟨(ap bJ (bW ms) y.fund (y.copies*y.price)).2,s.tol,fm s.L (bm y,y.price)⟩) from by unfold aD; rw [if_neg (by rw [hw]; decide),if_neg (by rw [hl]; decide),← hfs,if_neg (by simpa using hc45)]]
 exact ⟨rfl,(q57.1,q57.2,m43),⟨hq57,hm43.1,hm43.2,rfl⟩,hm'.less (Ls.trans Ls) (fun _ h=>h)⟩
theorem g_Place {w:World} {L:List (Nat×Obj)} {ro:List av} {mF pF pO mO ckF ckO:Nat} {esF esO:Array MapEntry} {money:Int} {ms:List FM} {s:SG} (hm:Mem w ((Bk pO (cJ pF s.tol mO) 38)::(mO,Obj.map esO ckO)::(mF,Obj.map esF ckF)::(Bk pF (bP mF money) 125)::(FB 130 ms++L)) ro) (hF:MapF Tryz.prog 3 esF (cC ms)) (hO:MapC Tryz.prog 3 esO ckO (fR s.L)) (hfs:bW ms=s.fs) (hok:SGok s) {ws:World} (hws:(ws,fun _=>True)∈ro) (hL:LD ws) (y:PK.Ord) (hy:y.okA) (hlen:s.L.length≤4000):Calls Tryz.prog 12 #[Pt pO,.agg y.cells.toArray] w fun e w'=>e=.returned (Vi (aD s y).1)∧∃ q:Array MapEntry×Nat×List FM,(MapC Tryz.prog 3 q.1 q.2.1 (fR (aD s y).2.L)∧bW q.2.2=(aD s y).2.fs∧cC q.2.2=cC ms∧(aD s y).2.tol=s.tol)∧Mem w' ((Bk pO (cJ pF s.tol mO) 38)::(mO,Obj.map q.1 q.2.1)::(mF,Obj.map esF ckF)::(Bk pF (bP mF money) 125)::(FB 130 q.2.2++L)) ro:=by
 cases hw:bV y with
 | false=>exact g_PlaceW hm hF hO hfs hok hws hL y hy hw
 | true =>
  cases hl:cq s.L y.id with
  | none=>exact g_PlaceF hm hF hO hfs hok hws hL y hy hw hl hlen
  | some z=>obtain ⟨x,first⟩:=z; exact g_PlaceT hm hF hO hfs hok hws hL y hy hw hl
open Go.RowKit Go.PK
theorem xY {fs:List FG} {id b n:Int} (h:(cj fs id b n).1≠0):(cj fs id b n).2=fs:=by
 unfold cj at h ⊢
 split
 ·rename_i h1; rw [if_pos h1] at h; exact im vI h
 rename_i h1; rw [if_neg h1] at h; exact im sr h
theorem g_read1E (s:ByteArray) (w:World) (hs:s.size≤200000000) (hbig:gk (aK s).1) (hL:LD w) (h0:(aK s).2.2≠0) :
  Calls Tryz.prog 54 #[.string s,.func (.func 55) #[] #[]] w fun e w'=>e=.returned (.tuple #[.agg (bn s).1.cells.toArray,Vi (bn s).2])∧Later w w':=by
 refine enter Tryz.func54 rfl Tryz.ntmps54 rfl ?_
 refine Rn [3,28,1,9,0] fun p4=>?_
 refine Xd (R:=fun v wa wb=>∃ A c,v=.tuple #[.slice A (aK s).1.length c,Vi (aK s).2.1,Vi (aK s).2.2]∧ab aZ (fun b=>wa.heap.size≤b) wb (.slice A (aK s).1.length c) (aK s).1) rfl Tryz.func107 rfl (fun w1 hw1=>(nr s w1 hs).mono fun e w2 ⟨v,h1,h2,h3⟩=>by obtain ⟨A,c,rfl,_⟩:=id h3; exact ⟨_,h1,h2,A,c,rfl,h3⟩) fun v12 wa12 wb12 hm12 hl12 hR12=>?_
 obtain ⟨A12,c12,rfl,hp12⟩:=hR12
 refine Rn [0,20,20,20,1,1,1,2,5,3,0,37,2,10] fun b17 hb17=>Aw (fun hc17=>?_) fun hc17=>?_
 ·simp only [hb17,Qz,ne_eq] at hc17
  refine Rn [3,28,9,39,0] fun p9=>?_
  refine bX [(Bk p9 co.cells 25)] rfl rfl rfl rfl cm rfl rfl ?_
  refine Rn [1,2,6,8] ?_
  have hT:bn s=(co,(aK s).2.2):=if_pos h0
  rw [hT]
  refine yo (cs:=co.cells.toArray) rfl rfl rfl (.tail _ (.head _)) f4 rfl cm (fun w1 hm=>⟨rfl,hm.b⟩)
 exfalso
 rw [hb17] at hc17
 exact absurd h0 (by simpa using hc17)
theorem g_read2E (s:ByteArray) (w:World) (hs:s.size≤200000000) (hbig:gk (aK s).1) (hL:LD w) (h0:(aK s).2.2≠0) :
  Calls Tryz.prog 59 #[.string s,.func (.func 60) #[] #[]] w fun e w'=>∃ q,e=.returned (.tuple #[q,Vi (aM s).2])∧Later w w'∧ab dE (fun b=>w.heap.size≤b) w' q (aM s).1:=by
 refine enter Tryz.func59 rfl Tryz.ntmps59 rfl ?_
 refine Rn [3,1,1,9,0] ?_
 refine Xd (R:=fun v wa wb=>∃ A c,v=.tuple #[.slice A (aK s).1.length c,Vi (aK s).2.1,Vi (aK s).2.2]∧ab aZ (fun b=>wa.heap.size≤b) wb (.slice A (aK s).1.length c) (aK s).1) rfl Tryz.func107 rfl (fun w1 hw1=>(nr s w1 hs).mono fun e w2 ⟨v,h1,h2,h3⟩=>by obtain ⟨A,c,rfl,_⟩:=id h3; exact ⟨_,h1,h2,A,c,rfl,h3⟩) fun v12 wa12 wb12 hm12 hl12 hR12=>?_
 obtain ⟨A12,c12,rfl,hp12⟩:=hR12
 refine Rn [0,20,20,20,1,1,1,2,5,3,0,37,2,10] fun b17 hb17=>Aw (fun hc17=>?_) fun hc17=>?_
 ·simp only [hb17,Qz,ne_eq] at hc17
  refine Rn [3,1,9,0,0,1,1,2,6,8] ?_
  have hT:aM s=([],(aK s).2.2):=if_pos h0
  rw [hT]
  exact s7 rfl rfl rfl (fun w' hm=>⟨_,rfl,hm.b,nil_rd _ _ _⟩)
 exfalso
 rw [hb17] at hc17
 exact absurd h0 (by simpa using hc17)
theorem sO (s:ByteArray) (w:World) (hs:s.size≤200000000) (hbig:gk (aK s).1) (hL:LD w):Calls Tryz.prog 54 #[.string s,.func (.func 55) #[] #[]] w fun e w'=>e=.returned (.tuple #[.agg (bn s).1.cells.toArray,Vi (bn s).2])∧Later w w':=by
 by_cases h0:(aK s).2.2=0
 ·have hT:bn s=pI (aK s).1:=if_neg (fun q=>q h0)
  rw [hT]
  exact c_read1 s w hs h0 hbig hL
 exact g_read1E s w hs hbig hL h0
theorem xZ (s:ByteArray) (w:World) (hs:s.size≤200000000) (hbig:gk (aK s).1) (hL:LD w):Calls Tryz.prog 59 #[.string s,.func (.func 60) #[] #[]] w fun e w'=>∃ q,e=.returned (.tuple #[q,Vi (aM s).2])∧Later w w'∧ab dE (fun b=>w.heap.size≤b) w' q (aM s).1:=by
 by_cases h0:(aK s).2.2=0
 ·have hT:aM s=iT (aK s).1:=if_neg (fun q=>q h0)
  rw [hT]
  exact c_read2 s w hs h0 hbig hL
 exact g_read2E s w hs hbig hL h0
theorem zl {w:World} {L:List (Nat×Obj)} {ro:List av} {mF pF pO mO ckF ckO:Nat} {esF esO:Array MapEntry} {money:Int} {ms:List FM} {s:SG} (hm:Mem w ((Bk pO (cJ pF s.tol mO) 38)::(mO,Obj.map esO ckO)::(mF,Obj.map esF ckF)::(Bk pF (bP mF money) 125)::(FB 130 ms++L)) ro) (hF:MapF Tryz.prog 3 esF (cC ms)) (hO:MapC Tryz.prog 3 esO ckO (fR s.L)) (hfs:bW ms=s.fs) (hok:SGok s) {ws:World} (hws:(ws,fun _=>True)∈ro) (hL:LD ws) (s0:ByteArray) (hs:s0.size≤200000000) (hbig:gk (aK s0).1) {a:PK.Ord} {c:Int} (hrd:bn s0=(a,c)) (hc0:c≠0) :
  Calls Tryz.prog 13 #[Pt pO,.string s0] w fun e w'=>e=.returned (Vi (ah s a c).1)∧∃ q:Array MapEntry×Nat×List FM,(MapC Tryz.prog 3 q.1 q.2.1 (fR (ah s a c).2.L)∧bW q.2.2=(ah s a c).2.fs∧cC q.2.2=cC ms∧(ah s a c).2.tol=s.tol)∧Mem w' ((Bk pO (cJ pF s.tol mO) 38)::(mO,Obj.map q.1 q.2.1)::(mF,Obj.map esF ckF)::(Bk pF (bP mF money) 125)::(FB 130 q.2.2++L)) ro:=by
 refine ay hm Tryz.func13 rfl Tryz.ntmps13 rfl ?_
 refine Rn [3,1,2,5,3,0,52,2,10] (Aw (fun hc12=>?_) fun hc12=>?_)
 ·cases hc12
 refine Rn [23,0] ?_
 refine Xc (v:=Value.tuple #[.agg a.cells.toArray,Vi c]) rfl Tryz.func54 rfl (fun w1 hw1=>by have h:=sO s0 w1 hs hbig (hL.later (hw1.base (by first | exact hws | exact .tail _ hws | exact .tail _ (.tail _ hws) | exact .tail _ (.tail _ (.tail _ hws))))); rw [hrd] at h; exact h) ?_
 refine Rn [0,20,20,28,32,1,2,5,3,0,37,2,10] fun p5 b19 hb19=>Aw (fun hc19=>?_) fun hc19=>?_
 ·simp only [hb19,Qz,ne_eq] at hc19
  refine Rn [3,0,1,2,6,8] ?_
  refine aw rfl rfl (fun w' hm'=>?_)
  rw [show (ah s a c)=(c,s) from if_pos hc0]
  exact ⟨rfl,(esO,ckO,ms),⟨hO,hfs,rfl,rfl⟩,hm'.less Ls (fun _ h=>h)⟩
 exfalso
 rw [hb19] at hc19
 exact absurd (by simpa using hc19) hc0
theorem zm {w:World} {L:List (Nat×Obj)} {ro:List av} {mF pF pO mO ckF ckO:Nat} {esF esO:Array MapEntry} {money:Int} {ms:List FM} {s:SG} (hm:Mem w ((Bk pO (cJ pF s.tol mO) 38)::(mO,Obj.map esO ckO)::(mF,Obj.map esF ckF)::(Bk pF (bP mF money) 125)::(FB 130 ms++L)) ro) (hF:MapF Tryz.prog 3 esF (cC ms)) (hO:MapC Tryz.prog 3 esO ckO (fR s.L)) (hfs:bW ms=s.fs) (hok:SGok s) {ws:World} (hws:(ws,fun _=>True)∈ro) (hL:LD ws) (s0:ByteArray) (hs:s0.size≤200000000) (hbig:gk (aK s0).1) {a:PK.Ord} (hrd:bn s0=(a,0)) (hl:cq s.L a.id=none) :
  Calls Tryz.prog 13 #[Pt pO,.string s0] w fun e w'=>e=.returned (Vi (ah s a 0).1)∧∃ q:Array MapEntry×Nat×List FM,(MapC Tryz.prog 3 q.1 q.2.1 (fR (ah s a 0).2.L)∧bW q.2.2=(ah s a 0).2.fs∧cC q.2.2=cC ms∧(ah s a 0).2.tol=s.tol)∧Mem w' ((Bk pO (cJ pF s.tol mO) 38)::(mO,Obj.map q.1 q.2.1)::(mF,Obj.map esF ckF)::(Bk pF (bP mF money) 125)::(FB 130 q.2.2++L)) ro:=by
 have hwo:ej a:=by have:=wd (s:=s0) (by rw [hrd]); rw [hrd] at this; exact this
 unfold ej at hwo
 obtain ⟨⟨y1,y2⟩,⟨y3,y4⟩,⟨y9,y10⟩,⟨y11,y12⟩,⟨y5,y6⟩,y7,y8⟩:=hwo
 have hid:aj a.id:=by unfold aj; omega
 refine ay hm Tryz.func13 rfl Tryz.ntmps13 rfl ?_
 refine Rn [3,1,2,5,3,0,52,2,10] (Aw (fun hc12=>?_) fun hc12=>?_)
 ·cases hc12
 refine Rn [23,0] ?_
 refine Xc (v:=Value.tuple #[.agg a.cells.toArray,Vi 0]) rfl Tryz.func54 rfl (fun w1 hw1=>by have h:=sO s0 w1 hs hbig (hL.later (hw1.base (by first | exact hws | exact .tail _ hws | exact .tail _ (.tail _ hws) | exact .tail _ (.tail _ (.tail _ hws))))); rw [hrd] at h; exact h) ?_
 refine Rn [0,20,20,28,32,1,2,5,3,0,37,2,10] fun p5 b19 hb19=>Aw (fun hc19=>?_) fun hc19=>?_
 ·exfalso
  rw [hb19] at hc19
  revert hc19; simp
 simp only [hb19,Qz,ne_eq] at hc19
 refine Rn [16,5] ?_
 refine cL ((Bk p5 a.cells 25)::(Bk pO (cJ pF s.tol mO) 38)::(mO,Obj.map esO ckO)::(mF,Obj.map esF ckF)::(Bk pF (bP mF money) 125)::(FB 130 ms++L)) 13 (.flt 0 (.flt 1 (.flt 2 (.flt 3 (.flt 4 (.flt 5 (.flt 6 (.flt 7 (.flt 8 (.flt 9 (.gr 10 (.gr 11 (.flt 12 .done) .nil) .nil))))))))))) (.refl _) Zk Zk ?_
 refine Rn [44,65,41,49,41,49] ?_
 refine dq (v:=Value.tuple #[.agg (bu co 0).toArray,.bool false]) rfl rfl (cI oc (Maps.int_keyed u3) f0 rfl rfl (Maps.keyOf_int_mk u3 (cG hid)) (cf (.tail _ (.tail _ (.head _)))) hO.f (by rw [cd,hl]; rfl) (by rw [cd,hl]; rfl)) ?_
 refine Rn [44,77,78,42,28,13,58,42,32,13,58,55,56,2,5,14,3,0,43,1,2,10] fun b30 hb30 p7 b33 hb33=>Aw (fun hc31=>?_) fun hc31=>?_
 ·simp only [hb33,hb30,Qz,ne_eq] at hc31
  refine Rn [3,1,2,6,15,8] ?_
  refine aw rfl rfl (fun w' hm'=>?_)
  rw [show (ah s a 0)=(32,s) from by unfold ah; rw [if_neg (by decide),hl]]
  exact ⟨rfl,(esO,ckO,ms),⟨hO,hfs,rfl,rfl⟩,hm'.less (Ls.trans Ls) (fun _ h=>h)⟩
 exfalso
 rw [hb33,hb30] at hc31
 revert hc31; simp
theorem zn {w:World} {L:List (Nat×Obj)} {ro:List av} {mF pF pO mO ckF ckO:Nat} {esF esO:Array MapEntry} {money:Int} {ms:List FM} {s:SG} (hm:Mem w ((Bk pO (cJ pF s.tol mO) 38)::(mO,Obj.map esO ckO)::(mF,Obj.map esF ckF)::(Bk pF (bP mF money) 125)::(FB 130 ms++L)) ro) (hF:MapF Tryz.prog 3 esF (cC ms)) (hO:MapC Tryz.prog 3 esO ckO (fR s.L)) (hfs:bW ms=s.fs) (hok:SGok s) {ws:World} (hws:(ws,fun _=>True)∈ro) (hL:LD ws) (s0:ByteArray) (hs:s0.size≤200000000) (hbig:gk (aK s0).1) {a:PK.Ord} {x:PK.Ord} {first:Int} (hrd:bn s0=(a,0)) (hl:cq s.L a.id=some (x,first)) :
  Calls Tryz.prog 13 #[Pt pO,.string s0] w fun e w'=>e=.returned (Vi (ah s a 0).1)∧∃ q:Array MapEntry×Nat×List FM,(MapC Tryz.prog 3 q.1 q.2.1 (fR (ah s a 0).2.L)∧bW q.2.2=(ah s a 0).2.fs∧cC q.2.2=cC ms∧(ah s a 0).2.tol=s.tol)∧Mem w' ((Bk pO (cJ pF s.tol mO) 38)::(mO,Obj.map q.1 q.2.1)::(mF,Obj.map esF ckF)::(Bk pF (bP mF money) 125)::(FB 130 q.2.2++L)) ro:=by
 have hwo:ej a:=by have:=wd (s:=s0) (by rw [hrd]); rw [hrd] at this; exact this
 unfold ej at hwo
 obtain ⟨⟨y1,y2⟩,⟨y3,y4⟩,⟨y9,y10⟩,⟨y11,y12⟩,⟨y5,y6⟩,y7,y8⟩:=hwo
 have hid:aj a.id:=by unfold aj; omega
 obtain ⟨hx,hfi1,hfi2⟩:=hok.at hl
 have hxid:x.id=a.id:=(bL hl).2
 have hhere:(cq s.L x.id).isSome=true:=by rw [hxid,hl]; rfl
 have htol:=hok.tol
 have hfk:∀ f∈bW ms,aR f.s:=by rw [hfs]; exact hok.fs
 obtain ⟨⟨o1,o2⟩,⟨o3,o4⟩,⟨o5,o6⟩,⟨o7,o8⟩,⟨o9,o10⟩,⟨o11,o12⟩,⟨o13,o14⟩,⟨o15,o16⟩,o17,o18⟩:=show dm x from hx
 have hy:dm (a6 x a):=zT hx ⟨y5,y6⟩ ⟨by omega,y8⟩
 have hres:-99980001000000≤aL x∧aL x≤99980001000000:=vS hx
 have hres2:-99980001000000≤aL (a6 x a)∧aL (a6 x a)≤99980001000000:=vS hy
 refine ay hm Tryz.func13 rfl Tryz.ntmps13 rfl ?_
 refine Rn [3,1,2,5,3,0,52,2,10] (Aw (fun hc12=>?_) fun hc12=>?_)
 ·cases hc12
 refine Rn [23,0] ?_
 refine Xc (v:=Value.tuple #[.agg a.cells.toArray,Vi 0]) rfl Tryz.func54 rfl (fun w1 hw1=>by have h:=sO s0 w1 hs hbig (hL.later (hw1.base (by first | exact hws | exact .tail _ hws | exact .tail _ (.tail _ hws) | exact .tail _ (.tail _ (.tail _ hws))))); rw [hrd] at h; exact h) ?_
 refine Rn [0,20,20,28,32,1,2,5,3,0,37,2,10] fun p5 b19 hb19=>Aw (fun hc19=>?_) fun hc19=>?_
 ·exfalso
  rw [hb19] at hc19
  revert hc19; simp
 simp only [hb19,Qz,ne_eq] at hc19
 refine Rn [16,5] ?_
 refine cL ((Bk p5 a.cells 25)::(Bk pO (cJ pF s.tol mO) 38)::(mO,Obj.map esO ckO)::(mF,Obj.map esF ckF)::(Bk pF (bP mF money) 125)::(FB 130 ms++L)) 13 (.flt 0 (.flt 1 (.flt 2 (.flt 3 (.flt 4 (.flt 5 (.flt 6 (.flt 7 (.flt 8 (.flt 9 (.gr 10 (.gr 11 (.flt 12 .done) .nil) .nil))))))))))) (.refl _) Zk Zk ?_
 refine Rn [44,65,41,49,41,49] ?_
 refine dq (v:=Value.tuple #[yV x first,.bool true]) rfl rfl (cI oc (Maps.int_keyed u3) f0 rfl rfl (Maps.keyOf_int_mk u3 (cG hid)) (cf (.tail _ (.tail _ (.head _)))) hO.f (by rw [cd,hl]; rfl) (by rw [cd,hl]; rfl)) ?_
 refine Rn [44,77,78,42,28,13,58,42,32,13,58,55,56,2,5,14,3,0,43,1,2,10] fun b30 hb30 p7 b33 hb33=>Aw (fun hc31=>?_) fun hc31=>?_
 ·exfalso
  rw [hb33,hb30] at hc31
  revert hc31; simp
 simp only [hb33,hb30,Qz,ne_eq] at hc31
 refine Rn [3,4,4,7,37,0,22,22,40,74,25,1,2,12] fun b38 hb38 b43 hb43 b44 hb44=>Aw (fun hc34=>?_) fun hc34=>?_
 ·refine Rn [3,1,2,6,15,8] ?_
  refine aw rfl rfl (fun w' hm'=>?_)
  rw [show (ah s a 0)=(50,s) from by unfold ah; rw [if_neg (by decide),hl]; dsimp only; rw [← hfs,if_pos (by omega)]]
  exact ⟨rfl,(esO,ckO,ms),⟨hO,hfs,rfl,rfl⟩,hm'.less (Ls.trans Ls) (fun _ h=>h)⟩
 refine Rn [3,4,4,7,4,7,37,0,22,22] fun b51 hb51=>?_
 refine fV [] rfl rfl rfl rfl rfl (v:=Value.agg #[Vi x.src,Vi x.num]) (fun hg=>by obtain ⟨hg0,_⟩:=hg; subst hg0; (try simp only [Qy]); exact bj (vs:=[Vi x.src,Vi x.num]) l9 rfl iL rfl (fun j hj=>aa (vs:=bu x first) (.head _) (by match j,hj with | 0,_=>rfl | 1,_=>rfl))) ?_
 refine Rn [22] ?_
 refine fV [] rfl rfl rfl rfl rfl (v:=Value.agg #[Vi a.src,Vi a.num]) (fun hg=>by obtain ⟨hg0,_⟩:=hg; subst hg0; (try simp only [Qy]); exact bj (vs:=[Vi a.src,Vi a.num]) l9 rfl iL rfl (fun j hj=>aa (vs:=a.cells) (.tail _ (.head _)) (by match j,hj with | 0,_=>rfl | 1,_=>rfl))) ?_
 refine fp [] rfl rfl rfl rfl rfl (c:=!decide (x.src=a.src∧x.num=a.num)) (fun hg=>by obtain ⟨hg0,_⟩:=hg; subst hg0; (try simp only [Qy]); exact ui Zk rfl rfl (fun w1=>xn w1 x.src x.num a.src a.num)) fun b58 hb58=>?_
 refine Rn [25,0,22,40,22,22,40,63,25,1,2,10] fun b59 hb59 b66 hb66 b67 hb67=>Aw (fun hc45=>?_) fun hc45=>?_
 ·simp only [hb67,hb66,hb59,hb51,Qz,ne_eq] at hc45
  refine Rn [3,1,2,6,15,8] ?_
  have hq:(x.fund≠a.fund∨¬(x.src=a.src∧x.num=a.num))∨a.copies > x.copies:=by
   rcases hc45 with (h | h) | h
   ·exact .inl (.inl h)
   ·exact .inl (.inr (fun q=>by rw [hb58] at h; simp [q.1,q.2] at h))
   exact .inr (by omega)
  refine aw rfl rfl (fun w' hm'=>?_)
  rw [show (ah s a 0)=(1,s) from by unfold ah; rw [if_neg (by decide),hl]; dsimp only; rw [← hfs,if_neg (by omega),if_pos hq]]
  exact ⟨rfl,(esO,ckO,ms),⟨hO,hfs,rfl,rfl⟩,hm'.less (Ls.trans Ls) (fun _ h=>h)⟩
 simp only [hb67,hb66,hb59,hb51,Qz,ne_eq] at hc45
 refine Rn [3,0,4,7,4,7] ?_
 refine Xh rfl Tryz.func56 rfl (fun w1 hw1=>c_near (tol:=s.tol) a.price first w1 (aa (vs:=cJ pF s.tol mO) (.tail _ (.tail _ (.head _))) rfl w1 hw1) htol ⟨y5,y6⟩ ⟨hfi1,hfi2⟩) fun b74 hb74=>?_
 refine Rn [43,1,2,10] fun b75 hb75=>Aw (fun hc68=>?_) fun hc68=>?_
 ·simp only [hb75,hb74,Qz,ne_eq] at hc68
  refine Rn [3,1,2,6,15,8] ?_
  have hq:¬((x.fund≠a.fund∨¬(x.src=a.src∧x.num=a.num))∨a.copies > x.copies):=by
   rintro ((h | h) | h)
   ·exact h hc45.1.1
   ·have h2:=hc45.1.2; rw [hb58] at h2; exact h (by simpa using h2)
   have h2:=hc45.2; omega
  refine aw rfl rfl (fun w' hm'=>?_)
  rw [show (ah s a 0)=(61,s) from by unfold ah; rw [if_neg (by decide),hl]; dsimp only; rw [← hfs,if_neg (by omega),if_neg hq,if_pos (by simpa using hc68)]]
  exact ⟨rfl,(esO,ckO,ms),⟨hO,hfs,rfl,rfl⟩,hm'.less (Ls.trans Ls) (fun _ h=>h)⟩
 simp only [hb75,hb74,Qz,ne_eq] at hc68
 refine Rn [45,27,17,3,39] ?_
 refine Xc rfl Tryz.func57 rfl (fun w1 hw1=>g_res x first w1 hx) ?_
 refine Rn [1,2,5] ?_
 refine cL ([(Bk p5 a.cells 25)]) 10 (.flt 0 (.flt 1 (.flt 2 (.flt 3 (.flt 4 (.flt 5 (.gr 6 (.flt 7 (.flt 8 (.gr 9 .done .nil))) .nil))))))) (.cons _ (List.Sublist.cons_cons _ (List.nil_sublist _))) Zk Zk ?_
 refine Rn [41,49,41,49,41,41,42] ?_
 refine aG (cs:=bu x first) (off:=6) (e:=100) (l2:=(Bk p5 a.cells 25)::(Bk pO (cJ pF s.tol mO) 38)::(mO,Obj.map esO ckO)::(mF,Obj.map esF ckF)::(Bk pF (bP mF money) 125)::(FB 130 ms++L)) [] rfl rfl rfl rfl cT rfl (by show 7≤10; decide) ?_
 refine Ze ?_
 refine dK (.cons _ (List.Sublist.cons_cons _ (List.nil_sublist _))) ?_
 refine Rn [41,41,42] ?_
 refine aG (cs:=bu { x with prom:=a.copies } first) (off:=5) (e:=100) (l2:=(Bk p5 a.cells 25)::(Bk pO (cJ pF s.tol mO) 38)::(mO,Obj.map esO ckO)::(mF,Obj.map esF ckF)::(Bk pF (bP mF money) 125)::(FB 130 ms++L)) [] rfl rfl rfl rfl cT rfl (by show 6≤10; decide) ?_
 refine Ze ?_
 refine dK (.cons _ (List.Sublist.cons_cons _ (List.nil_sublist _))) ?_
 refine Rn [56,2] ?_
 refine cO (σ:=Int×List FM) (fun r21=>r21.1=(cj (bW ms) x.fund (aL x) (aL (a6 x a))).1∧bW r21.2=(cj (bW ms) x.fund (aL x) (aL (a6 x a))).2∧cC r21.2=cC ms) (fun r21=>[(0,Pt pO),(6,Vi r21.1),(7,Pt p7)]) (fun r21=>(Bk p7 (bu (a6 x a) first) 100)::(Bk p5 a.cells 25)::(Bk pO (cJ pF s.tol mO) 38)::(mO,Obj.map esO ckO)::(mF,Obj.map esF ckF)::(Bk pF (bP mF money) 125)::(FB 130 r21.2++L)) (fun r21=>ro) ?_ ?_
 ·refine Zs ?_
  refine ey _ ((Bk p7 (bu (a6 x a) first) 100)::(Bk p5 a.cells 25)::(Bk pO (cJ pF s.tol mO) 38)::(mO,Obj.map esO ckO)::(mF,Obj.map esF ckF)::(Bk pF (bP mF money) 125)::(FB 130 ms++L)) _ ?_
  refine Rn [18,39] ?_
  refine Xc rfl Tryz.func57 rfl (fun w1 hw1=>g_res (a6 x a) first w1 hy) ?_
  refine Rn [1,9,0,0,60,2,12] fun b90 hb90=>Aw (fun hc90=>?_) fun hc90=>?_
  ·refine bc 10 ?_
   refine Rn [0,11,4,7,4,4,7,0,0,54] ?_
   refine aI (τ:=List FM) (v:=Vi (ap bJ (bW ms) x.fund ((aL (a6 x a)) - (aL x))).1) (fun q=>bW q=(ap bJ (bW ms) x.fund ((aL (a6 x a)) - (aL x))).2∧cC q=cC ms) (fun q=>(Bk p7 (bu (a6 x a) first) 100)::(Bk p5 a.cells 25)::(Bk pO (cJ pF s.tol mO) 38)::(mO,Obj.map esO ckO)::(mF,Obj.map esF ckF)::(Bk pF (bP mF money) 125)::(FB 130 q++L)) rfl rfl Tryz.func52 Zk rfl (fun w1 hw1=>g_enc (l1:=[(Bk p7 (bu (a6 x a) first) 100),(Bk p5 a.cells 25),(Bk pO (cJ pF s.tol mO) 38),(mO,Obj.map esO ckO),(mF,Obj.map esF ckF),(Bk pF (bP mF money) 125)]) (ms:=ms) hw1 hF Zh Zh hfk (x.fund) (by unfold aj; omega) ((aL (a6 x a)) - (aL x))) fun m101 hm101=>?_
   refine Rn [1,13] ?_
   exact cv ((ap bJ (bW ms) x.fund ((aL (a6 x a)) - (aL x))).1,m101) (by unfold cj; rw [if_pos (by omega)]; exact ⟨rfl,hm101⟩) Zu (fun _ h=>h)
  refine bc 10 ?_
  refine Rn [0,11,4,7,4,4,7,0,0,54] ?_
  refine aI (τ:=List FM) (v:=Vi (ap aS (bW ms) x.fund ((aL x) - (aL (a6 x a)))).1) (fun q=>bW q=(ap aS (bW ms) x.fund ((aL x) - (aL (a6 x a)))).2∧cC q=cC ms) (fun q=>(Bk p7 (bu (a6 x a) first) 100)::(Bk p5 a.cells 25)::(Bk pO (cJ pF s.tol mO) 38)::(mO,Obj.map esO ckO)::(mF,Obj.map esF ckF)::(Bk pF (bP mF money) 125)::(FB 130 q++L)) rfl rfl Tryz.func58 Zk rfl (fun w1 hw1=>g_rel (l1:=[(Bk p7 (bu (a6 x a) first) 100),(Bk p5 a.cells 25),(Bk pO (cJ pF s.tol mO) 38),(mO,Obj.map esO ckO),(mF,Obj.map esF ckF),(Bk pF (bP mF money) 125)]) (ms:=ms) hw1 hF Zh Zh hfk (x.fund) (by unfold aj; omega) ((aL x) - (aL (a6 x a)))) fun m112 hm112=>?_
  refine Rn [1,13] ?_
  exact cv ((ap aS (bW ms) x.fund ((aL x) - (aL (a6 x a)))).1,m112) (by unfold cj; rw [if_neg (by omega)]; exact ⟨rfl,hm112⟩) Zu (fun _ h=>h)
 rintro ⟨c21,m21⟩ ⟨hq1,hq2,hq3⟩
 refine Rn [144] ?_
 dsimp only at hq1 hq2 hq3
 refine Rn [5,3,0,38,2,12] fun b114 hb114=>Aw (fun hc114=>?_) fun hc114=>?_
 ·refine Rn [18,0,39] ?_
  refine aI (τ:=Array MapEntry×Nat) (v:=Value.tuple #[]) (fun q=>MapC Tryz.prog 3 q.1 q.2 (fR (dl s.L ((a6 x a),first)))) (fun q=>[(Bk p7 (bu (a6 x a) first) 100),(Bk p5 a.cells 25)]++(Bk pO (cJ pF s.tol mO) 38)::(mO,Obj.map q.1 q.2)::(mF,Obj.map esF ckF)::(Bk pF (bP mF money) 125)::(FB 130 m21++L)) rfl rfl Tryz.func53 Zk rfl (fun w1 hw1=>(xN (l1:=[(Bk p7 (bu (a6 x a) first) 100),(Bk p5 a.cells 25)]) (a6 x a) first hw1 hO (show aj x.id by unfold aj; omega)).mono fun e w2 ⟨h1,q,h2,h3⟩=>⟨h1,q,by rw [← (nA (y:=((a6 x a),first)) hhere)]; exact h2,h3⟩) fun q117 hq117=>?_
  refine Rn [9,0,1,2,6] ?_
  have hq:¬((x.fund≠a.fund∨¬(x.src=a.src∧x.num=a.num))∨a.copies > x.copies):=by
   rintro ((h | h) | h)
   ·exact h hc45.1.1
   ·have h2:=hc45.1.2; rw [hb58] at h2; exact h (by simpa using h2)
   have h2:=hc45.2; omega
  refine aw rfl rfl (fun w' hm'=>?_)
  have hp0:(cj (bW ms) x.fund (aL x) (aL (a6 x a))).1=0:=hq1.symm.trans hc114
  rw [show (ah s a 0)=(0,⟨(cj (bW ms) x.fund (aL x) (aL (a6 x a))).2,s.tol,dl s.L ((a6 x a),first)⟩) from by unfold ah; rw [if_neg (by decide),hl]; dsimp only; rw [← hfs,if_neg (by omega),if_neg hq,if_neg (by simpa using hc68),if_neg (by rw [hp0]; decide)]]
  exact ⟨by rw [hc114],(q117.1,q117.2,m21),⟨hq117,hq2,hq3,rfl⟩,hm'.less (Ls.trans Ls) (fun _ h=>h)⟩
 refine Rn [23,0,1,2,6] ?_
 have hq:¬((x.fund≠a.fund∨¬(x.src=a.src∧x.num=a.num))∨a.copies > x.copies):=by
  rintro ((h | h) | h)
  ·exact h hc45.1.1
  ·have h2:=hc45.1.2; rw [hb58] at h2; exact h (by simpa using h2)
  have h2:=hc45.2; omega
 refine aw rfl rfl (fun w' hm'=>?_)
 have hp0:(cj (bW ms) x.fund (aL x) (aL (a6 x a))).1≠0:=by rw [← hq1]; simpa using hc114
 rw [show (ah s a 0)=((cj (bW ms) x.fund (aL x) (aL (a6 x a))).1,s) from by unfold ah; rw [if_neg (by decide),hl]; dsimp only; rw [← hfs,if_neg (by omega),if_neg hq,if_neg (by simpa using hc68),if_pos hp0]]
 exact ⟨by rw [hq1],(esO,ckO,m21),⟨hO,hq2.trans ((xY hp0).trans hfs),hq3,rfl⟩,hm'.less (Ls.trans Ls) (fun _ h=>h)⟩
theorem g_Answer {w:World} {L:List (Nat×Obj)} {ro:List av} {mF pF pO mO ckF ckO:Nat} {esF esO:Array MapEntry} {money:Int} {ms:List FM} {s:SG} (hm:Mem w ((Bk pO (cJ pF s.tol mO) 38)::(mO,Obj.map esO ckO)::(mF,Obj.map esF ckF)::(Bk pF (bP mF money) 125)::(FB 130 ms++L)) ro) (hF:MapF Tryz.prog 3 esF (cC ms)) (hO:MapC Tryz.prog 3 esO ckO (fR s.L)) (hfs:bW ms=s.fs) (hok:SGok s) {ws:World} (hws:(ws,fun _=>True)∈ro) (hL:LD ws) (s0:ByteArray) (hs:s0.size≤200000000) (hbig:gk (aK s0).1):Calls Tryz.prog 13 #[Pt pO,.string s0] w fun e w'=>e=.returned (Vi (ah s (bn s0).1 (bn s0).2).1)∧∃ q:Array MapEntry×Nat×List FM,(MapC Tryz.prog 3 q.1 q.2.1 (fR (ah s (bn s0).1 (bn s0).2).2.L)∧bW q.2.2=(ah s (bn s0).1 (bn s0).2).2.fs∧cC q.2.2=cC ms∧(ah s (bn s0).1 (bn s0).2).2.tol=s.tol)∧Mem w' ((Bk pO (cJ pF s.tol mO) 38)::(mO,Obj.map q.1 q.2.1)::(mF,Obj.map esF ckF)::(Bk pF (bP mF money) 125)::(FB 130 q.2.2++L)) ro:=by
 obtain ⟨a,c,hrd⟩:∃ a c,bn s0=(a,c):=⟨_,_,rfl⟩
 rw [hrd]
 by_cases hc:c=0
 ·subst hc
  cases hl:cq s.L a.id with
  | none=>exact zm hm hF hO hfs hok hws hL s0 hs hbig hrd hl
  | some z=>obtain ⟨x,first⟩:=z; exact zn hm hF hO hfs hok hws hL s0 hs hbig hrd hl
 exact zl hm hF hO hfs hok hws hL s0 hs hbig hrd hc
open Go.RowKit Go.PK
def dt (a b c:Int):PK.Ord:=⟨1+a%6,1+b%4,1,a%3,c%6,100*(b%13),0,2,5⟩
theorem cN (n:Int) {m:Int} (h:0 < m):0≤n%m∧n%m < m:=⟨Int.emod_nonneg n (by omega),Int.emod_lt_of_pos n h⟩
theorem nC (a b c:Int):(dt a b c).okA:=by
 have h1:=cN a (m:=6) (by decide); have h2:=cN b (m:=4) (by decide); have h3:=cN a (m:=3) (by decide); have h4:=cN c (m:=6) (by decide); have h5:=cN b (m:=13) (by decide)
 refine ⟨⟨?_,?_,?_,?_,?_,?_⟩,?_,?_,?_⟩ <;> (unfold dt aj; dsimp only; omega)
theorem sP (k a b c:Int) (w:World) (ha:aj a) (hb:aj b) (hc:aj c) :
  Calls Tryz.prog 19 #[.agg [Vi k,Vi a,Vi b,Vi c].toArray] w fun e w'=>e=.returned (.agg (dt a b c).cells.toArray)∧Later w w':=by
 refine enter Tryz.func19 rfl Tryz.ntmps19 rfl ?_
 refine Rn [3,36,28,2,5] fun p1 p2=>?_
 refine bc 20 ?_
 refine Rn [4,7] ?_
 refine Xc (v:=Vi (a%6)) rfl Tryz.func43 rfl (fun w1 hw1=>ix a 6 w1 ha (by decide)) ?_
 have hm5:=cN a (m:=6) (by decide)
 refine Rn [26,4,7] ?_
 refine Xc (v:=Vi (b%4)) rfl Tryz.func43 rfl (fun w1 hw1=>ix b 4 w1 hb (by decide)) ?_
 have hm9:=cN b (m:=4) (by decide)
 refine Rn [26,4,7] ?_
 refine Xc (v:=Vi (a%3)) rfl Tryz.func43 rfl (fun w1 hw1=>ix a 3 w1 ha (by decide)) ?_
 have hm13:=cN a (m:=3) (by decide)
 refine Xv (v:=Value.agg #[Vi 1,Vi (a%3)]) rfl (aH (cs:=[Vi 1,Vi (a%3)]) (places:=[(0,1),(1,1)]) l9 pV Zk rfl rfl) ?_
 refine Rn [4,7] ?_
 refine Xc (v:=Vi (c%6)) rfl Tryz.func43 rfl (fun w1 hw1=>ix c 6 w1 hc (by decide)) ?_
 have hm17:=cN c (m:=6) (by decide)
 refine Rn [4,7] ?_
 refine Xc (v:=Vi (b%13)) rfl Tryz.func43 rfl (fun w1 hw1=>ix b 13 w1 hb (by decide)) ?_
 have hm20:=cN b (m:=13) (by decide)
 refine Xv rfl (cY rfl rfl rfl Zo) (Xv (v:=Value.agg (dt a b c).cells.toArray) rfl (aH (cs:=(dt a b c).cells) (places:=[(0,1),(1,1),(2,2),(4,1),(5,1),(6,1),(7,1),(8,1)]) f4 gI Zk rfl rfl) ?_)
 refine Rn [32,2,6] ?_
 exact tz (cs:=(dt a b c).cells.toArray) rfl rfl (.head _) f4 rfl cm (fun w' hm=>⟨rfl,hm.b⟩)
open Go.RowKit Go.PK
end Go.Proofs.YtifekogdhjabaaaGreatDoor
