/- Of the proofs of YtifekogdhjabaaaGreatDoor: Wc Wd We Wf Wg Wh Wi Wj Wk Wl Wm Wn Wo Wp Wq Wr Wt Wu Wv Xa Xb Xc Xd Xe Xf Xg Xh, put together. -/
import Derived.Test.YtifekogdhjabaaaGreatDoorQ4
import Derived.Test.YtifekogdhjabaaaGreatDoorQ1
import Derived.Test.YtifekogdhjabaaaGreatDoorShelfQ
import Derived.Test.YtifekogdhjabaaaGreatDoorQ2
import Derived.Lib.SmallJoins
import Derived.Shelf.Strconv.ErrVarAll
import Derived.Lib.AtoiAllCases
import Derived.Test.YtifekogdhjabaaaGreatDoorQ3
set_option linter.unusedVariables false
set_option linter.unusedSimpArgs false
set_option maxRecDepth 100000
set_option maxHeartbeats 4000000

namespace Go.Proofs.YtifekogdhjabaaaGreatDoor
open Go.RowKit Go.PK
theorem ap5:(Tryz.prog.info? 5).map (fun j=>(j.zero,j.size,j.bytes))=some (some (.int .u8 0),1,1):=by kernel_rfl
theorem lies66:liesAt Tryz.prog Tryz.prog.depth 173 ((#[Value.nilIface,Value.nilIface]:Array Value).size / Tryz.prog.cellsOf 173) 0 173 1=true:=by kernel_rfl
theorem c_cc0 {l2:List (Nat×Obj)} {ro:List av} {p:Nat} {r:ak} {bs:List UInt8} (w:World) (hm:Mem w ((em 173 5 p (.pointer none) r (bs.length))++l2) ro) :
  Calls Tryz.prog 166 #[Pt p] w fun e w'=>e=.returned (.tuple #[])∧Mem w' ((em 173 5 p (Pt p) r (bs.length))++l2) ro:=by
 refine ay hm Tryz.func166 rfl Tryz.ntmps166 rfl ?_
 refine Rn [3,0,11,4,7,102,2,10] fun b6 hb6=>Aw (fun hc6=>?_) fun hc6=>?_
 ·refine Rn [18,0,0] ?_
  refine Xv rfl (v_toUns (e:=173) (cs:=#[(.pointer none),au r bs.length]) (fz:=(0,0)) (m:=1) u171 u235 tL rfl (.head _) (show 0 < 2 by decide)) (Xv rfl (v_noEsc Tryz.func186 Zk Zk Zk Zk rfl) (Xv rfl (yw (e:=173) (cs:=#[(.pointer none),au r bs.length]) (fz:=(0,0)) u235 u171 ⟨_,(Option.map_eq_some_iff.1 tL).choose_spec.1⟩ rfl (.head _) lies66) ?_))
  refine Rn [11,4] ?_
  refine aG [] rfl rfl rfl rfl sz171 rfl (by show 1≤2; decide) ?_
  refine Ze ?_
  exact tw rfl (fun w' hm'=>⟨rfl,hm'⟩)
 rw [hb6] at hc6; cases hc6
theorem c_cc1 {l2:List (Nat×Obj)} {ro:List av} {p:Nat} {r:ak} {bs:List UInt8} (w:World) (hm:Mem w ((em 173 5 p (Pt p) r (bs.length))++l2) ro) :
  Calls Tryz.prog 166 #[Pt p] w fun e w'=>e=.returned (.tuple #[])∧Mem w' ((em 173 5 p (Pt p) r (bs.length))++l2) ro:=by
 refine ay hm Tryz.func166 rfl Tryz.ntmps166 rfl ?_
 refine Rn [3,0,11,4,7,102,2,10] fun b6 hb6=>Aw (fun hc6=>?_) fun hc6=>?_
 ·rw [hb6] at hc6; cases hc6
 refine Rn [3,0,11,4,7,0] ?_
 refine Xb rfl (v_pne u171 (Option.map_eq_some_iff.1 tL).choose_spec.1 rfl rfl) fun b19 hb19=>?_
 refine Rn [2,10] (Aw (fun hc19=>?_) fun hc19=>?_)
 ·rw [hb19] at hc19; cases hc19
 refine eA ?_
 exact tw rfl (fun w' hm'=>⟨rfl,hm'⟩)
theorem c_cc {l2:List (Nat×Obj)} {ro:List av} {p:Nat} {pp:Value} {r:ak} {bs:List UInt8} (w:World) (hm:Mem w ((em 173 5 p pp r (bs.length))++l2) ro) (hp:yx p pp) :
  Calls Tryz.prog 166 #[Pt p] w fun e w'=>e=.returned (.tuple #[])∧Mem w' ((em 173 5 p (Pt p) r (bs.length))++l2) ro:=by
 rcases hp with rfl | rfl
 ·exact c_cc0 w hm
 exact c_cc1 w hm
theorem c_WB {l2:List (Nat×Obj)} {ro:List av} {p:Nat} {pp:Value} {r:ak} {bs:List UInt8} (w:World) (hm:Mem w ((em 173 5 p pp r (bs.length))++l2) ro) (hp:yx p pp) (c:UInt8) (hr:ag 1 r bs.length (ea bs)) (hl:bs.length≤4000000000000) :
  Calls Tryz.prog 203 #[Pt p,.int .u8 (c.toNat:Nat)] w fun e w'=>e=.returned .nilIface∧∃ r',ag 1 r' (bs++[c]).length (ea (bs++[c]))∧Mem w' ((em 173 5 p (Pt p) r' ((bs++[c]).length))++l2) ro:=by
 refine ay hm Tryz.func203 rfl Tryz.ntmps203 rfl ?_
 refine Rn [3,1,9,0] ?_
 refine aI (τ:=Unit) (v:=.tuple #[]) (fun _=>True) (fun _=>(em 173 5 p (Pt p) r (bs.length))++l2) rfl rfl Tryz.func166 Zk rfl (fun w1 hw1=>by have hc:=c_cc w1 hw1 hp; exact hc.mono fun e w2 h=>⟨h.1,(),trivial,h.2⟩) fun _ _=>?_
 refine Rn [9,0,0,11,4,7,0] ?_
 refine ac rfl rfl rfl jU lq vk rfl rfl rfl ?_
 intro p13
 refine be (e:=5) [(p13,_),(p,_)] (l2:=l2) r (len:=bs.length) (xs:=ea bs) rfl rfl rfl rfl rfl hr jU ap5 rfl rfl (m:=1) (news:=ea [c]) (fun i hi=>aa (vs:=ea [c]) (.head _) (by rw [Nat.zero_add]; exact List.getElem?_eq_getElem hi)) rfl Zx (by omega) fun r' hr'=>?_
 refine Rn [11,4] ?_
 refine aG [(p13,_)] rfl rfl rfl rfl yy rfl (by show 2≤2; decide) ?_
 refine Rn [9,1,2,6] ?_
 refine aw rfl rfl (fun w' hm'=>⟨rfl,r',?_,?_⟩)
 ·rw [jj,List.length_append]; exact hr'
 rw [List.length_append]; exact hm'.less Ls (fun _ h=>h)
theorem c_BS {l2:List (Nat×Obj)} {ro:List av} {p:Nat} {pp:Value} {r:ak} {bs:List UInt8} (w:World) (hm:Mem w ((em 173 5 p pp r (bs.length))++l2) ro) (hp:yx p pp) (hr:ag 1 r bs.length (ea bs)) {B:Nat} (hB:∀ s∈ro,s.1.heap.size≤B) (h2:∀ q∈l2,q.1 < B) (hb:∀ q∈(em 173 5 p pp r (bs.length)),B≤q.1) (hBw:B≤w.heap.size) :
  Calls Tryz.prog 122 #[Pt p] w fun e w'=>e=.returned (.string ⟨bs.toArray⟩)∧Mem w' l2 ro :=
 (Tryz.Builder_String_any_k B p bs w (bld2_is hm hp hr rfl hb) hBw).mono fun e w' ⟨h1,_,h3,_⟩=>⟨h1,hm.after hB h2 h3⟩
open Go.RowKit Go.PK
def pieceV:rI→Value
  | some (t,c,_)=>.tuple #[.string ⟨t.toArray⟩,.int .u8 (c.toNat:Nat),.bool true]
  | none=>.tuple #[.string ⟨#[]⟩,.int .u8 0,.bool false]
theorem c_piece {l1 l2:List (Nat×Obj)} {ro:List av} {p:Nat} (g:Sg) (s:ByteArray) (a:Nat) (w:World) (hm:Mem w (l1++(Bk p (bE g s (a)) 207)::l2) ro) (hs:s.size≤200000000) (ha:a≤s.size) :
  Calls Tryz.prog 179 #[Pt p] w fun e w'=>e=.returned (pieceV (cH s g a []))∧∃ a',(∀ t c z,cH s g a []=some (t,c,z)→a'=z)∧Mem w' (l1++(Bk p (bE g s (a')) 207)::l2) ro:=by
 refine ay hm.snap (vs:=[Pt p]) Tryz.func179 rfl Tryz.ntmps179 rfl ?_
 refine Rn [3,1,1,1,9,28,2,5,14] fun p5=>?_
 refine aO (σ:=Nat×List UInt8×Value×ak) (fun x=>x.1≤s.size∧cH s g x.1 x.2.1=cH s g a []∧yx p5 x.2.2.1∧ag 1 x.2.2.2 x.2.1.length (ea x.2.1)∧x.2.1.length≤x.1) (fun x=>[(0,Pt p),(5,Pt p5)]) (fun x=>((em 173 5 p5 x.2.2.1 x.2.2.2 (x.2.1.length))++l1)++(Bk p (bE g s (x.1)) 207)::l2) (fun x=>(w,a7 (l1++(Bk p (bE g s (a)) 207)::l2))::ro) (fun x=>s.size - x.1) ((a,[],.pointer none,none)) (⟨ha,rfl,.inl rfl,bG,Nat.zero_le _⟩) (aC Zu (fun _ h=>h)) ?_
 rintro ⟨x,bs,pp,r⟩ ⟨hx,hP,hpp,hr,hbl⟩
 refine Rn [144] ?_
 dsimp only at hx hP hpp hr hbl
 have hpe:=eW s g x bs
 refine Zs (Zs ?_)
 refine bc 10 ?_
 refine Rn [0,11,4,7,0,11,4,7,53,24,2,12] fun b16 hb16=>Aw (fun hc16=>?_) fun hc16=>?_
 ·have hx2:x < s.size:=by omega
  refine Rn [16,14,5] ?_
  refine bc 10 ?_
  refine Rn [0,11,4,7,0,11,4,7] ?_
  refine Xv rfl (bv u9 rfl rfl (by omega)) ?_
  refine Rn [1,9,0,11,4,7] ?_
  refine Xv rfl (bg rfl rfl rfl (by omega)) ?_
  refine Rn [11,4] ?_
  refine aG ((em 173 5 p5 pp r (bs.length))++l1) rfl rfl rfl rfl cT rfl (by show 6≤6; decide) ?_
  refine Rn [2,5,3,0,2,14,5,3,0,11,4,4] ?_
  refine Xl rfl u5 rfl (aa (vs:=bE g s (x+1)) (List.mem_append_right _ (.head _)) rfl) ?_
  refine Rn [38,1,2,12] fun b40 hb40=>Aw (fun hc34=>?_) fun hc34=>?_
  ·have hsg:ad s x=g.c∨ad s x=g.e∨ad s x=g.n:=.inl (s5.1 hc34)
   refine Rn [16,10] (Aw (fun hc34=>?_) fun hc34=>?_)
   ·refine Rn [3] ?_
    refine aI (τ:=Unit) (v:=.string ⟨bs.toArray⟩) (fun _=>True) (fun _=>l1++(Bk p (bE g s (x+1)) 207)::l2) rfl rfl Tryz.func122 Zk rfl (fun w1 hw1=>by
     rw [List.append_assoc] at hw1
     have hB:∀ q∈(em 173 5 p5 pp r (bs.length)),w.heap.size≤q.1:=hw1.newB (own0:=l1++(Bk p (bE g s (a)) 207)::l2) (.head _) (fun k hk=>by simpa using hk)
     have hc:=c_BS w1 hw1 hpp hr (B:=w.heap.size) (fun q hq=>by
      rcases List.mem_cons.1 hq with rfl | hq
      ·exact Nat.le_refl _
      exact (hm.ro_st q hq).2.2.2) (fun q hq=>by
      obtain ⟨q2,hq2,e⟩:∃ q2∈l1++(Bk p (bE g s (a)) 207)::l2,q2.1=q.1:=by
       simp only [List.mem_append,List.mem_cons] at hq ⊢
       rcases hq with hq | rfl | hq
       ·exact ⟨q,.inl hq,rfl⟩
       ·exact ⟨_,.inr (.inl rfl),rfl⟩
       exact ⟨q,.inr (.inr hq),rfl⟩
      rw [← e]; exact hm.lt hq2) hB (hw1.ro_st _ (.head _)).2.2.2
     exact hc.mono fun e w2 h=>⟨h.1,(),trivial,h.2⟩) ?_
    intro _ _
    refine Rn [0,1,1,1,2,6,15,8,15,8,15,8] ?_
    refine dJ rfl rfl rfl rfl (fun w' hm'=>?_)
    have eP:cH s g a []=some (bs,ad s x,x+1):=by rw [← hP,hpe,if_pos hx2,if_pos hsg]
    rw [eP]
    exact ⟨rfl,x+1,fun t c z h=>by injection h with h; injection h with _ h; injection h with _ h,hm'.less (List.Sublist.refl _) (fun q hq=>.tail _ hq)⟩
   simp only [hb40,Qz,ne_eq] at hc34
   omega
  have h34a:=hc34
  refine Rn [3,0,11,4,4] ?_
  refine Xl rfl u5 rfl (aa (vs:=bE g s (x+1)) (List.mem_append_right _ (.head _)) rfl) ?_
  refine Rn [38,1,2,12] fun b46 hb46=>Aw (fun hc34=>?_) fun hc34=>?_
  ·have hsg:ad s x=g.c∨ad s x=g.e∨ad s x=g.n:=.inr (.inl (s5.1 hc34))
   refine Rn [16,10] (Aw (fun hc34=>?_) fun hc34=>?_)
   ·refine Rn [3] ?_
    refine aI (τ:=Unit) (v:=.string ⟨bs.toArray⟩) (fun _=>True) (fun _=>l1++(Bk p (bE g s (x+1)) 207)::l2) rfl rfl Tryz.func122 Zk rfl (fun w1 hw1=>by
     rw [List.append_assoc] at hw1
     have hB:∀ q∈(em 173 5 p5 pp r (bs.length)),w.heap.size≤q.1:=hw1.newB (own0:=l1++(Bk p (bE g s (a)) 207)::l2) (.head _) (fun k hk=>by simpa using hk)
     have hc:=c_BS w1 hw1 hpp hr (B:=w.heap.size) (fun q hq=>by
      rcases List.mem_cons.1 hq with rfl | hq
      ·exact Nat.le_refl _
      exact (hm.ro_st q hq).2.2.2) (fun q hq=>by
      obtain ⟨q2,hq2,e⟩:∃ q2∈l1++(Bk p (bE g s (a)) 207)::l2,q2.1=q.1:=by
       simp only [List.mem_append,List.mem_cons] at hq ⊢
       rcases hq with hq | rfl | hq
       ·exact ⟨q,.inl hq,rfl⟩
       ·exact ⟨_,.inr (.inl rfl),rfl⟩
       exact ⟨q,.inr (.inr hq),rfl⟩
      rw [← e]; exact hm.lt hq2) hB (hw1.ro_st _ (.head _)).2.2.2
     exact hc.mono fun e w2 h=>⟨h.1,(),trivial,h.2⟩) ?_
    intro _ _
    refine Rn [0,1,1,1,2,6,15,8,15,8,15,8] ?_
    refine dJ rfl rfl rfl rfl (fun w' hm'=>?_)
    have eP:cH s g a []=some (bs,ad s x,x+1):=by rw [← hP,hpe,if_pos hx2,if_pos hsg]
    rw [eP]
    exact ⟨rfl,x+1,fun t c z h=>by injection h with h; injection h with _ h; injection h with _ h,hm'.less (List.Sublist.refl _) (fun q hq=>.tail _ hq)⟩
   simp only [hb46,Qz,ne_eq] at hc34
   omega
  have h34b:=hc34
  refine Rn [18,0,11,4,4] ?_
  refine Xl rfl u5 rfl (aa (vs:=bE g s (x+1)) (List.mem_append_right _ (.head _)) rfl) ?_
  refine Rn [38,1,2,12] fun b52 hb52=>Aw (fun hc34=>?_) fun hc34=>?_
  ·have hsg:ad s x=g.c∨ad s x=g.e∨ad s x=g.n:=.inr (.inr (s5.1 hc34))
   refine Rn [3] ?_
   refine aI (τ:=Unit) (v:=.string ⟨bs.toArray⟩) (fun _=>True) (fun _=>l1++(Bk p (bE g s (x+1)) 207)::l2) rfl rfl Tryz.func122 Zk rfl (fun w1 hw1=>by
    rw [List.append_assoc] at hw1
    have hB:∀ q∈(em 173 5 p5 pp r (bs.length)),w.heap.size≤q.1:=hw1.newB (own0:=l1++(Bk p (bE g s (a)) 207)::l2) (.head _) (fun k hk=>by simpa using hk)
    have hc:=c_BS w1 hw1 hpp hr (B:=w.heap.size) (fun q hq=>by
     rcases List.mem_cons.1 hq with rfl | hq
     ·exact Nat.le_refl _
     exact (hm.ro_st q hq).2.2.2) (fun q hq=>by
     obtain ⟨q2,hq2,e⟩:∃ q2∈l1++(Bk p (bE g s (a)) 207)::l2,q2.1=q.1:=by
      simp only [List.mem_append,List.mem_cons] at hq ⊢
      rcases hq with hq | rfl | hq
      ·exact ⟨q,.inl hq,rfl⟩
      ·exact ⟨_,.inr (.inl rfl),rfl⟩
      exact ⟨q,.inr (.inr hq),rfl⟩
     rw [← e]; exact hm.lt hq2) hB (hw1.ro_st _ (.head _)).2.2.2
    exact hc.mono fun e w2 h=>⟨h.1,(),trivial,h.2⟩) ?_
   intro _ _
   refine Rn [0,1,1,1,2,6,15,8,15,8,15,8] ?_
   refine dJ rfl rfl rfl rfl (fun w' hm'=>?_)
   have eP:cH s g a []=some (bs,ad s x,x+1):=by rw [← hP,hpe,if_pos hx2,if_pos hsg]
   rw [eP]
   exact ⟨rfl,x+1,fun t c z h=>by injection h with h; injection h with _ h; injection h with _ h,hm'.less (List.Sublist.refl _) (fun q hq=>.tail _ hq)⟩
  have hns:¬(ad s x=g.c∨ad s x=g.e∨ad s x=g.n):=fun h=>by rcases h with h | h | h <;> (rw [h] at h34a h34b hc34; omega)
  refine Rn [3,0,11,4,4] ?_
  refine Xl rfl u5 rfl (aa (vs:=bE g s (x+1)) (List.mem_append_right _ (.head _)) rfl) ?_
  refine Rn [38,1,2,12] fun b61 hb61=>Aw (fun hc55=>?_) fun hc55=>?_
  ·have hrl:ad s x=g.r:=s5.1 hc55
   refine Zs (Zs ?_)
   refine bc 10 ?_
   refine Rn [0,11,4] ?_
   refine Xl rfl u3 rfl (aa (vs:=bE g s (x+1)) (List.mem_append_right _ (.head _)) rfl) ?_
   refine Rn [0,11,4] ?_
   refine Xl rfl u9 rfl (aa (vs:=bE g s (x+1)) (List.mem_append_right _ (.head _)) rfl) ?_
   refine Rn [53,38,2,12] fun b71 hb71=>Aw (fun hc71=>?_) fun hc71=>?_
   ·have he:x+1=s.size:=by omega
    refine Rn [3,1,1,1,2,6,8,15,8,15,8,15,8] ?_
    refine dJ rfl rfl rfl rfl (fun w' hm'=>?_)
    have eP:cH s g a []=none:=by rw [← hP,hpe,if_pos hx2,if_neg hns,if_pos hrl,if_pos he]
    rw [eP]
    exact ⟨rfl,x+1,fun t c z h=>(by cases h),hm'.less (by rw [List.append_assoc]; exact List.sublist_append_right _ _) (fun q hq=>.tail _ hq)⟩
   have he:¬x+1=s.size:=by omega
   refine Rn [16,5] ?_
   refine bc 10 ?_
   refine Rn [0,11,4] ?_
   refine Xl rfl u9 rfl (aa (vs:=bE g s (x+1)) (List.mem_append_right _ (.head _)) rfl) ?_
   refine Rn [0,11,4] ?_
   refine Xl rfl u3 rfl (aa (vs:=bE g s (x+1)) (List.mem_append_right _ (.head _)) rfl) (Xv rfl (bv u9 rfl rfl (by omega)) ?_)
   refine Rn [1,2,18,0,11,4] ?_
   refine Xl rfl u3 rfl (aa (vs:=bE g s (x+1)) (List.mem_append_right _ (.head _)) rfl) (Xv rfl (bg rfl rfl rfl (by omega)) ?_)
   refine Rn [11,4] ?_
   refine aG ((em 173 5 p5 pp r (bs.length))++l1) rfl rfl rfl rfl cT rfl (by show 6≤6; decide) ?_
   refine Rn [13,27,17,18,0] ?_
   refine aI (τ:=ak) (v:=.nilIface) (fun r'=>ag 1 r' (bs++[ad s (x+1)]).length (ea (bs++[ad s (x+1)]))) (fun r'=>((em 173 5 p5 (Pt p5) r' ((bs++[ad s (x+1)]).length))++l1)++(Bk p (bE g s (x+2)) 207)::l2) rfl rfl Tryz.func203 Zk rfl (fun w1 hw1=>by
    rw [List.append_assoc] at hw1
    have hc:=c_WB w1 hw1 hpp (ad s (x+1)) hr (by omega)
    exact hc.mono fun e w2 ⟨h1,r',h2,h3⟩=>⟨h1,r',h2,by rw [List.append_assoc]; exact h3⟩) ?_
   intro r' hr'
   refine Rn [13,27] ?_
   exact aJ (x+2,bs++[ad s (x+1)],(Pt p5),r') ⟨by dsimp only; omega,by dsimp only; rw [← hP,hpe,if_pos hx2,if_neg hns,if_pos hrl,if_neg he],.inr rfl,hr',by dsimp only; rw [List.length_append,List.length_singleton]; omega⟩ (by simp only; omega) Zu (fun _ h=>h)
  have hrl:¬ad s x=g.r:=fun h=>hc55 (s5.2 h)
  refine Rn [45,27,17,18,0] ?_
  refine aI (τ:=ak) (v:=.nilIface) (fun r'=>ag 1 r' (bs++[ad s x]).length (ea (bs++[ad s x]))) (fun r'=>((em 173 5 p5 (Pt p5) r' ((bs++[ad s x]).length))++l1)++(Bk p (bE g s (x+1)) 207)::l2) rfl rfl Tryz.func203 Zk rfl (fun w1 hw1=>by
   rw [List.append_assoc] at hw1
   have hc:=c_WB w1 hw1 hpp (ad s x) hr (by omega)
   exact hc.mono fun e w2 ⟨h1,r',h2,h3⟩=>⟨h1,r',h2,by rw [List.append_assoc]; exact h3⟩) ?_
  intro r' hr'
  refine Rn [13,27] ?_
  exact aJ (x+1,bs++[ad s x],(Pt p5),r') ⟨by dsimp only; omega,by dsimp only; rw [← hP,hpe,if_pos hx2,if_neg hns,if_neg hrl],.inr rfl,hr',by dsimp only; rw [List.length_append,List.length_singleton]; omega⟩ (by simp only; omega) Zu (fun _ h=>h)
 have hx2:¬x < s.size:=by omega
 refine Rn [34,19,19,35,17,3,1,1,1,2,6] ?_
 refine dJ rfl rfl rfl rfl (fun w' hm'=>?_)
 have eP:cH s g a []=none:=by rw [← hP,hpe,if_neg hx2]
 rw [eP]
 exact ⟨rfl,x,fun t c z h=>(by cases h),hm'.less (by rw [List.append_assoc]; exact List.sublist_append_right _ _) (fun q hq=>.tail _ hq)⟩
open Go.RowKit Go.PK
theorem ap78:(Tryz.prog.info? 78).map (fun j=>(j.zero,j.size,j.bytes))=some (some (.slice none 0 0),1,24):=by kernel_rfl
theorem ap9:(Tryz.prog.info? 9).map (fun j=>(j.zero,j.size,j.bytes))=some (some (.string ⟨#[]⟩),1,16):=by kernel_rfl
theorem yC (x:rI):∃ (t:ByteArray) (c:UInt8) (k:Bool),pieceV x=.tuple #[.string t,.int .u8 (c.toNat:Nat),.bool k]∧(k=true→∃ l z,x=some (l,c,z)∧t=⟨l.toArray⟩)∧(k=false→x=none):=by
 match x with
 | none=>exact ⟨_,0,false,rfl,fun h=>(by cases h),fun _=>rfl⟩
 | some (l,c,z)=>exact ⟨_,c,true,rfl,fun _=>⟨l,z,rfl,rfl⟩,fun h=>(by cases h)⟩
theorem vp {l1 l2:List (Nat×Obj)} {ro:List av} {p:Nat} (g:Sg) (s:ByteArray) (a:Nat) (w:World) (hm:Mem w (l1++(Bk p (bE g s (a)) 207)::l2) ro) (hs:s.size≤200000000) (ha:a < s.size) (hen:ad s a=g.e∨ad s a=g.n) :
  Calls Tryz.prog 157 #[Pt p] w fun e w'=>∃ v,e=.returned v∧∃ a',(∃ u,v=.tuple #[u,.bool (ja s g (ad s a) (a+1) []).isSome]∧∀ l z,ja s g (ad s a) (a+1) []=some (l,z)→a'=z∧ab (aP aX) (fun b=>w.heap.size≤b) w' u l)∧Mem w' (l1++(Bk p (bE g s (a')) 207)::l2) ro:=by
 refine ay hm.snap (vs:=[Pt p]) Tryz.func157 rfl Tryz.ntmps157 rfl ?_
 refine Rn [3,1,1,9,1,2,5,3,0] ?_
 refine aI (τ:=Unit) (v:=.int .u8 ((ad s a).toNat:Nat)) (fun _=>True) (fun _=>l1++(Bk p (bE g s (a+1)) 207)::l2) rfl rfl Tryz.func178 Zk rfl (fun w1 hw1=>(c_next g s a w1 hw1 hs ha).mono fun e w2 h=>⟨h.1,(),trivial,h.2⟩) fun _ _=>?_
 refine Rn [1,2,14] ?_
 refine aO (σ:=UInt8×Nat×List (List ByteArray)×ak×List ak) (fun x=>x.2.1≤s.size∧a < x.2.1∧ja s g x.1 x.2.1 x.2.2.1=ja s g (ad s a) (a+1) []∧SSOK x.2.2.2.1 x.2.2.2.2 x.2.2.1∧(x.1=g.e∨x.1=g.n∨x.2.2.1≠[])∧x.2.2.1.length+1≤x.2.1∧∀ y∈x.2.2.1,y.length≤x.2.1∧∀ t∈y,t.size≤s.size) (fun x=>[(0,Pt p),(4,au x.2.2.2.1 x.2.2.1.length),(5,Value.int .u8 (x.1.toNat:Nat))]) (fun x=>aA 78 x.2.2.2.1++(rU 9 x.2.2.2.2++(l1++(Bk p (bE g s (x.2.1)) 207)::l2))) (fun x=>(w,a7 (l1++(Bk p (bE g s (a)) 207)::l2))::ro) (fun x=>s.size+1 - x.2.1) ((ad s a,a+1,[],none,[])) (⟨ha,Nat.lt_succ_self _,rfl,SSOK.nil,by rcases hen with h | h; (· exact .inl h); exact .inr (.inl h),by dsimp only [List.length_nil]; omega,fun y hy=>by cases hy⟩) (aC Zu (fun _ h=>h)) ?_
 rintro ⟨c,x,xs,R,Ss⟩ ⟨hx,hax,hE,hS,hne,hz1,hz2⟩
 refine Rn [144] ?_
 dsimp only at hx hax hE hS hne hz1 hz2
 have hee:=qs s g c x xs
 refine Rn [5,3,0,0,11,4,4,7,37,2,10] fun b17 hb17=>Aw (fun hc17=>?_) fun hc17=>?_
 ·simp only [hb17,Qz,ne_eq] at hc17
  have hcn:¬c=g.n:=fun h=>hc17 (s5.2 h)
  rw [if_neg hcn] at hee
  refine Rn [16,14] ?_
  refine cO (σ:=List (List ByteArray)×ak×List ak) (fun q=>q.1=jS g c xs∧q.1≠[]∧SSOK q.2.1 q.2.2 q.1∧q.1.length≤x∧∀ y∈q.1,y.length≤x∧∀ t∈y,t.size≤s.size) (fun q=>[(0,Pt p),(4,au q.2.1 q.1.length)]) (fun q=>aA 78 q.2.1++(rU 9 q.2.2++(l1++(Bk p (bE g s (x)) 207)::l2))) (fun q=>(w,a7 (l1++(Bk p (bE g s (a)) 207)::l2))::ro) ?_ ?_
  ·refine Rn [3,0,0,11,4,4,7,38,2,12] fun b24 hb24=>Aw (fun hc24=>?_) fun hc24=>?_
   ·have hce:c=g.e:=s5.1 hc24
    refine Zr (Xm ?_)
    refine ac rfl rfl rfl dd fw rR rfl rfl rfl ?_
    intro p26
    refine be (e:=78) [(p26,_)] (l2:=rU 9 Ss++(l1++(Bk p (bE g s (x)) 207)::l2)) R (len:=xs.length) (xs:=vo xs Ss) rfl rfl rfl rfl rfl hS.row dd ap78 rfl rfl (m:=1) (news:=[Value.slice none 0 0]) (fun i hi=>aa (vs:=[Value.slice none 0 0]) (.head _) (by rw [Nat.zero_add]; exact List.getElem?_eq_getElem hi)) rfl Zx (by omega) fun R' hR'=>?_
    refine Rn [1,13] ?_
    exact cv (xs++[[]],R',Ss++[none]) (⟨by unfold jS; rw [if_pos hce],by simp,hS.snoc hR' bG,by dsimp only; rw [List.length_append,List.length_singleton]; omega,fun y hy=>by rcases List.mem_append.1 hy with h | h; (· exact hz2 y h); rw [List.mem_singleton.1 h]; exact ⟨Nat.zero_le _,fun t ht=>by cases ht⟩⟩) (by dsimp only; rw [List.length_append,List.length_singleton]; repeat (first | exact je.nil | refine je.cons rfl ?_)) (fun w1 h=>(h.less Ls (fun _ h=>h)).to (by dsimp only; rw [iM]; rfl))
   have hce:¬c=g.e:=fun h=>hc24 (s5.2 h)
   refine eA ?_
   exact cv (xs,R,Ss) (⟨by unfold jS; rw [if_neg hce],by rcases hne with h | h | h; (· exact absurd h hce); (· exact absurd h hcn); exact h,hS,by dsimp only; omega,hz2⟩) Zu (fun _ h=>h)
  rintro ⟨zs,R2,S2⟩ ⟨hzs,hzn,hS2,hy1,hy2⟩
  refine Rn [144] ?_
  dsimp only at hzs hzn hS2 hy1 hy2
  obtain ⟨pt,pc,pk,hpv,hpt,hpf⟩:=yC (cH s g x [])
  refine Rn [3,0] ?_
  refine aI (τ:=Nat) (v:=.tuple #[.string pt,.int .u8 (pc.toNat:Nat),.bool pk]) (fun z=>∀ t c' u,cH s g x []=some (t,c',u)→z=u) (fun z=>aA 78 R2++(rU 9 S2++(l1++(Bk p (bE g s (z)) 207)::l2))) rfl rfl Tryz.func179 Zk rfl (fun w1 hw1=>by
   have h1:Mem w1 ((aA 78 R2++(rU 9 S2++l1))++(Bk p (bE g s (x)) 207)::l2) ro:=(hw1.less (List.Sublist.refl _) (fun _ h=>.tail _ h)).to (by simp [List.append_assoc])
   have h1:=hw1.to (own':=(aA 78 R2++(rU 9 S2++l1))++(Bk p (bE g s (x)) 207)::l2) (by simp [List.append_assoc])
   exact (c_piece g s x w1 h1 hs hx).mono fun e w2 ⟨h2,z,h3,h4⟩=>⟨by rw [h2,hpv],z,h3,h4.to (by simp [List.append_assoc])⟩) ?_
  intro az haz
  refine Rn [0,20,20,48,1,1,1,2,5,3,0,43,2,10] fun b33 hb33 b35 hb35=>Aw (fun hc35=>?_) fun hc35=>?_
  ·have hk:pk=false:=by rw [hb35] at hc35; subst hb33; simpa using hc35
   have hnone:ja s g (ad s a) (a+1) []=none:=by rw [← hE,hee,hpf hk]
   refine Rn [3,1,1,2,6,8,15,8,15,8] ?_
   refine s7 rfl rfl rfl (fun w' hm'=>⟨_,rfl,az,⟨_,by rw [hnone]; rfl,fun l z h=>?_⟩,?_⟩)
   ·rw [hnone] at h; cases h
   exact hm'.less ((List.sublist_append_right _ _).trans (List.sublist_append_right _ _)) (fun _ h=>.tail _ h)
  have hk:pk=true:=by rw [hb35] at hc35; subst hb33; simpa using hc35
  obtain ⟨pl,pz,hpp,rfl⟩:=hpt hk
  obtain rfl:=haz _ _ _ hpp
  obtain ⟨hp1,hp2,hp3,hp4⟩:=iJ hpp
  have hptz:(⟨pl.toArray⟩:ByteArray).size≤s.size:=by show (List.toArray pl).size≤_; rw [List.size_toArray]; simp only [List.length_nil] at hp3; omega
  obtain ⟨ys,y,Ts,S,bb,cs,cp,rfl,rfl,rfl⟩:=hS2.last hzn
  rw [iM,List.append_assoc]
  obtain ⟨hla,hlt⟩:=hS2.lastAt
  have hyl:=hy2 y (by simp)
  have hzl:ys.length+1≤x:=by simpa using hy1
  have hcp:ys.length+1≤cp:=by have:=hS2.row.2.1; simpa using this
  refine Rn [23,0,0,31] ?_
  refine Xv rfl (dH (c:=(ys.length:Int)) rfl rfl (by simp only [List.length_append,List.length_singleton]; omega) (by omega)) ?_
  refine Rn [0,0,31] ?_
  refine Xv rfl (dH (c:=(ys.length:Int)) rfl rfl (by simp only [List.length_append,List.length_singleton]; omega) (by omega)) (Xv rfl (ae dd fw rfl rfl (by simp only [List.length_append,List.length_singleton]; omega) rfl) (Xl rfl ez rfl (aa (vs:=cs) (.head _) (show cs[0+ys.length*1]?=some (au S y.length) from by rw [Nat.mul_one,Nat.zero_add]; exact hla)) (Xm ?_)))
  refine ac rfl rfl rfl ez gG kA rfl rfl rfl ?_
  intro p47
  refine be (e:=9) [(p47,_),(bb,.cells cs.toArray 78 (0,0))] (l2:=rU 9 Ts++(l1++(Bk p (bE g s (az)) 207)::l2)) S (len:=y.length) (xs:=y.map Value.string) rfl rfl rfl rfl rfl hS2.lastOK ez ap9 rfl rfl (m:=1) (news:=[Value.string ⟨pl.toArray⟩]) (fun i hi=>aa (vs:=[Value.string ⟨pl.toArray⟩]) (.head _) (by rw [Nat.zero_add]; exact List.getElem?_eq_getElem hi)) rfl Zx (by omega) fun S' hS'=>?_
  refine Xv rfl (ae dd fw rfl rfl (by simp only [List.length_append,List.length_singleton]; omega) rfl) ?_
  refine aG (cs:=cs) (off:=0+ys.length*1) [(p47,_)] rfl rfl rfl rfl fw rfl (by rw [Nat.mul_one,Nat.zero_add]; omega) ?_
  rw [show 0+ys.length*1=ys.length by omega,tP hlt]
  refine Rn [2,18,0,1,13,27] ?_
  have hS3:SSOK (some (bb,cs.set ys.length (au S' (y.length+1)),cp)) (Ts++[S']) (ys++[y++[⟨pl.toArray⟩]]):=by have h:=hS2.setlast (S':=S') (y':=y++[⟨pl.toArray⟩]) (by simpa using hS'); simpa using h
  refine aJ (pc,az,ys++[y++[⟨pl.toArray⟩]],some (bb,cs.set ys.length (au S' (y.length+1)),cp),Ts++[S']) ⟨hp2,by dsimp only; omega,by dsimp only; rw [← hE,hee,hpp,← hzs]; show _=ja s g pc az (gi (ys++[y]) ⟨pl.toArray⟩); rw [gj],hS3,.inr (.inr (by simp)),by dsimp only; rw [List.length_append,List.length_singleton]; omega,fun y' hy'=>?_⟩ (by simp only; omega) (by dsimp only; rw [show (ys++[y++[(⟨pl.toArray⟩:ByteArray)]]).length=(ys++[y]).length by simp]; repeat (first | exact je.nil | refine je.cons rfl ?_)) (fun w1 h=>(h.less Ls (fun _ h=>h)).to (by dsimp only; rw [iM,List.append_assoc]; rfl))
  rcases List.mem_append.1 hy' with h | h
  ·obtain ⟨q1,q2⟩:=hy2 y' (List.mem_append_left _ h); exact ⟨by dsimp only; omega,q2⟩
  rw [List.mem_singleton.1 h]; refine ⟨by dsimp only; rw [List.length_append,List.length_singleton]; omega,fun t ht=>?_⟩
  rcases List.mem_append.1 ht with ht | ht
  ·exact hyl.2 t ht
  rw [List.mem_singleton.1 ht]; exact hptz
 have hcn:c=g.n:=by rw [hb17] at hc17; exact s5.1 (of_decide_eq_true (by simpa using hc17))
 rw [if_pos hcn] at hee
 refine Rn [34,19,19,35,17,3,0,1,1,2,6] ?_
 refine s7 rfl rfl rfl (fun w' hm'=>?_)
 have eP:ja s g (ad s a) (a+1) []=some (xs,x):=by rw [← hE,hee]
 have hm2:=hm'.to (own':=(aA 78 R++rU 9 Ss)++(l1++(Bk p (bE g s (x)) 207)::l2)) (by simp [List.append_assoc])
 have hnew:=hm2.newB (own0:=l1++(Bk p (bE g s (a)) 207)::l2) (.head _) (fun k hk=>by simpa using hk)
 refine ⟨_,rfl,x,⟨_,by rw [eP]; rfl,fun l z h=>?_⟩,?_⟩
 ·rw [eP] at h; injection h with h; injection h with h1 h2; subst h1; subst h2
  exact ⟨rfl,hS.rd (eR:=78) (eS:=9) rfl (fun q hq t ht=>by have:=(hz2 q hq).2 t ht; unfold iD; omega) hm2 (fun q hq=>List.mem_append_left _ (List.mem_append_left _ hq)) (fun q hq=>List.mem_append_left _ (List.mem_append_right _ hq)) (fun q hq=>hnew q (List.mem_append_left _ hq)) (fun q hq=>hnew q (List.mem_append_right _ hq))⟩
 exact hm2.less (List.sublist_append_right _ _) (fun _ h=>.tail _ h)
open Go.RowKit Go.PK
theorem c_hasPre (s p:ByteArray) (w:World) :
  Calls Tryz.prog 200 #[.string s,.string p] w fun e w'=>e=.returned (.bool (pre s p))∧Later w w':=by
 refine enter Tryz.func200 rfl Tryz.ntmps200 rfl ?_
 refine Rn [3,1,9,0,53,0,53,57,0,21,21,83] fun b9 hb9=>?_
 refine Xi rfl rfl rfl (fun hg0=>by subst hg0; (try simp only [Qy]); have h1:=of_decide_eq_true hb9.symm; exact iF u9 rfl rfl Zo) ?_
 refine Rn [21,92,30,1,2,6] fun b16 hb16 b17 hb17=>?_
 refine aw rfl rfl (fun w' hm=>⟨?_,hm.b⟩)
 simp [hb17,hb16,hb9,pre]
theorem tQ (s p:ByteArray) (w:World) :
  Calls Tryz.prog 175 #[.string s,.string p] w fun e w'=>e=.returned (.bool (pre s p))∧Later w w':=by
 refine enter Tryz.func175 rfl Tryz.ntmps175 rfl ?_
 refine Rn [3,1,9,0,0] ?_
 refine Xh rfl Tryz.func200 rfl (fun w hw=>c_hasPre _ _ w) fun b7 hb7=>?_
 refine Rn [1,2,6] ?_
 refine aw rfl rfl (fun w' hm=>⟨?_,hm.b⟩)
 rw [hb7]
def openV (A:Option Addr) (own:List (Nat×Obj)) (s:ByteArray):Option (Sg×Nat)→Prop
  | none=>A=none∧own=[]
  | some (g,a)=>∃ p,A=some ⟨p,0,none⟩∧own=[(Bk p (bE g s a) 207)]
theorem c_open (s:ByteArray) (w:World) (hs:s.size≤200000000) :
  Calls Tryz.prog 154 #[.string s] w fun e w'=>∃ A own,e=.returned (.tuple #[.pointer A,Vi (ci s).2.1,Vi (ci s).2.2])∧openV A own s (ci s).1∧Mem w' own [(w,fun _=>True)]:=by
 refine enter Tryz.func154 rfl Tryz.ntmps154 rfl ?_
 refine Rn [3,1,1,1,9] ?_
 refine Xc rfl Tryz.func174 rfl (fun w1 hw1=>c_usual w1) ?_
 refine Xm ?_
 refine Xv rfl (aH (places:=[(0,4),(4,1),(5,1)]) u207 zr207 Zk rfl rfl) ?_
 refine Rn [36,1,2,5,3,0] fun p9=>?_
 refine Xh rfl Tryz.func175 rfl (fun w1 hw1=>tQ _ _ w1) fun b11 hb11=>?_
 refine Rn [43,2,10] fun b12 hb12=>Aw (fun hc12=>?_) fun hc12=>?_
 ·have hu:¬pT s:=by rw [hb12,hb11,wZ] at hc12; simpa using hc12
  have eO:ci s=(some (bO,0),0,0):=by unfold ci; rw [if_neg hu]
  refine Rn [3,0,1,1,1,2,6,8] ?_
  refine dJ rfl rfl rfl rfl (fun w' hm'=>⟨some ⟨p9,0,none⟩,[(Bk p9 (bE bO s 0) 207)],by rw [eO],by rw [eO]; exact ⟨p9,rfl,rfl⟩,hm'⟩)
 have hu:pT s:=by rw [hb12,hb11,wZ] at hc12; simpa using hc12
 refine Rn [16,5,3,0,53,24,2,12] fun b16 hb16=>Aw (fun hc16=>?_) fun hc16=>?_
 ·have h9:s.size < 9:=by omega
  have eO:ci s=(none,((s.size:Nat):Int),10):=by unfold ci; rw [if_pos hu,if_pos h9]
  refine Rn [3,0,53,1,1,1,2,6,8] ?_
  refine dJ rfl rfl rfl rfl (fun w' hm'=>⟨none,[],by rw [eO],by rw [eO]; exact ⟨rfl,rfl⟩,hm'.less (List.nil_sublist _) (fun _ h=>h)⟩)
 have h9:¬s.size < 9:=by omega
 refine Rn [16,5] ?_
 refine cL ([]) 17 (.flt 0 (.flt 1 (.flt 2 (.flt 3 (.flt 4 (.flt 5 (.flt 6 (.flt 7 (.flt 8 (.flt 9 (.flt 10 (.flt 11 (.flt 12 (.gr 13 (.flt 14 (.flt 15 (.gr 16 .done .nil))) .nil)))))))))))))) (List.nil_sublist _) Zk Zk ?_
 refine Rn [44,44,44] ?_
 refine dq rfl rfl (bv (j:=3) u9 rfl rfl (by omega)) ?_
 refine Rn [44] ?_
 refine dq rfl rfl (bv (j:=4) u9 rfl rfl (by omega)) ?_
 refine Rn [44] ?_
 refine dq rfl rfl (bv (j:=6) u9 rfl rfl (by omega)) ?_
 refine Rn [44] ?_
 refine dq rfl rfl (bv (j:=8) u9 rfl rfl (by omega)) (dq rfl rfl (aH (places:=[(0,1),(1,1),(2,1),(3,1)]) yz wS Zk rfl rfl) ?_)
 refine Rn [65,41,42] ?_
 refine aG (cs:=bE bO s 0) (off:=0) [] rfl rfl rfl rfl tM rfl (by show 4≤6; decide) ?_
 refine Ze ?_
 refine dK (List.nil_sublist _) ?_
 refine Rn [65,41,42] ?_
 refine aG (cs:=bE (jk s) s 0) (off:=5) [] rfl rfl rfl rfl cT rfl (by show 6≤6; decide) ?_
 refine Ze ?_
 refine dK (List.nil_sublist _) ?_
 refine Rn [56,2,5,5] ?_
 refine ey _ [(Bk p9 (bE (jk s) s (9)) 207)] _ ?_
 refine Rn [18,0,11,4] ?_
 refine Xv rfl (bj (vs:=(jk s).cells) yz rfl tM rfl (fun j hj=>aa (vs:=bE (jk s) s 9) (.head _) (by match j,hj with | 0,_=>rfl | 1,_=>rfl | 2,_=>rfl | 3,_=>rfl))) (Xh rfl Tryz.func176 rfl (fun w1 hw1=>c_right (jk s) w1) fun b38 hb38=>?_)
 refine Rn [43,2,10] fun b39 hb39=>Aw (fun hc39=>?_) fun hc39=>?_
 ·have hr:¬eX (jk s):=by rw [hb39,hb38] at hc39; simpa using hc39
  have eO:ci s=(none,3,11):=by unfold ci; rw [if_pos hu,if_neg h9,if_neg hr]
  refine Rn [3,1,1,1,2,6,8] ?_
  refine dJ rfl rfl rfl rfl (fun w' hm'=>⟨none,[],by rw [eO],by rw [eO]; exact ⟨rfl,rfl⟩,hm'.less (List.nil_sublist _) (fun _ h=>h)⟩)
 have hr:eX (jk s):=by rw [hb39,hb38] at hc39; simpa using hc39
 have eO:ci s=(some (jk s,9),0,0):=by unfold ci; rw [if_pos hu,if_neg h9,if_pos hr]
 refine Rn [23,0,1,1,1,2,6] ?_
 refine dJ rfl rfl rfl rfl (fun w' hm'=>⟨some ⟨p9,0,none⟩,[(Bk p9 (bE (jk s) s 9) 207)],by rw [eO],by rw [eO]; exact ⟨p9,rfl,rfl⟩,hm'⟩)
open Go.RowKit Go.PK
theorem qA:(Tryz.prog.info? 134).map (fun j=>(j.zero,j.size,j.bytes))=some (some (.agg #[.string ⟨#[]⟩,.slice none 0 0]),2,40):=by kernel_rfl
theorem nr (s:ByteArray) (w:World) (hs:s.size≤200000000) :
  Calls Tryz.prog 107 #[.string s] w fun e w'=>∃ v,e=.returned (.tuple #[v,Vi (aK s).2.1,Vi (aK s).2.2])∧Later w w'∧ab aZ (fun b=>w.heap.size≤b) w' v (aK s).1:=by
 refine enter Tryz.func107 rfl Tryz.ntmps107 rfl ?_
 refine Rn [3,1,1,1,9,0] ?_
 refine fq (τ:=Option Addr×List (Nat×Obj)) (fun q=>.tuple #[.pointer q.1,Vi (ci s).2.1,Vi (ci s).2.2]) (fun q=>openV q.1 q.2 s (ci s).1) (fun q=>q.2) rfl rfl rfl Tryz.func154 Zk rfl (fun w1 hw1=>(c_open s w1 hs).mono fun e w2 ⟨A0,own0,h1,h2,h3⟩=>⟨(A0,own0),h1,h3.b,h2,hw1.join h3⟩) ?_
 rintro ⟨A0,own0⟩ hop
 dsimp only at hop
 have eR:=iN s
 refine Rn [0,20,20,20,1,1,1,2,5,3,0,37,2,12] fun b21 hb21=>Aw (fun hc21=>?_) fun hc21=>?_
 ·have hon:(ci s).1=none:=by
   cases ho:(ci s).1 with
   | none=>rfl
   | some q=>obtain ⟨g,a⟩:=q; exact absurd (by rw [(oe s ho).2]) hc21
  rw [hon] at eR
  refine Rn [3,0,0,1,1,1,2,6,8] ?_
  refine dJ rfl rfl rfl rfl (fun w' hm=>⟨_,by rw [eR]; rfl,hm.b,by rw [eR]; exact aT⟩)
 obtain ⟨g,a,ho⟩:∃ g a,(ci s).1=some (g,a):=by
  cases ho:(ci s).1 with
  | none=>have:=vq s ho; omega
  | some q=>exact ⟨q.1,q.2,rfl⟩
 rw [ho] at hop eR
 obtain ⟨p,rfl,rfl⟩:=hop
 have ha:=(oe s ho).1
 dsimp only at eR
 refine Rn [23,1,2,5,3,0] ?_
 refine aI (τ:=Unit) (v:=.tuple #[]) (fun _=>True) (fun _=>(Bk p (bE g s (bI s a)) 207)::[]) rfl rfl Tryz.func155 Zk rfl (fun w1 hw1=>(c_skip (l1:=[]) g s a w1 hw1 hs ha).mono fun e w2 h=>⟨h.1,(),trivial,h.2⟩) fun _ _=>?_
 refine Rn [2,14] ?_
 refine qk (aA 134 none++(Bk p (bE g s (bI s a)) 207)::[]) (List.Sublist.refl _) (fun w0 hm0=>?_)
 have hska:=mm (s:=s) _ a rfl
 refine aO (σ:=Nat×List Seg×ak×World) (fun x=>x.1≤s.size∧bI s x.1=x.1∧lG s g x.1 x.2.1=lG s g a []∧x.2.1.length≤10000∧x.2.1.length≤x.1∧cZ aZ (dC w (aA 134 x.2.2.1++(Bk p (bE g s (x.1)) 207)::[])) x.2.2.2 x.2.2.1 x.2.1) (fun x=>[(0,Value.string s),(5,Pt p),(8,au x.2.2.1 x.2.1.length)]) (fun x=>aA 134 x.2.2.1++(Bk p (bE g s (x.1)) 207)::[]) (fun x=>(x.2.2.2,a7 (aA 134 x.2.2.1++(Bk p (bE g s (x.1)) 207)::[]))::[(w,fun _=>True)]) (fun x=>s.size - x.1) ((bI s a,[],none,w0)) (⟨(iI ha).2,hska,by dsimp only; rw [jT s g _ _ (iI ha).2,jT s g a _ ha,hska],Nat.zero_le _,Nat.zero_le _,cZ.nil⟩) (aC Zu (fun _ h=>h)) ?_
 rintro ⟨x,xs,R,ws⟩ ⟨hx,hsk,hP,hn,hnx,hT⟩
 refine Rn [144] ?_
 dsimp only at hx hsk hP hn hnx hT
 have hpe:=jT s g x xs hx
 rw [hsk,hP] at hpe
 refine Rn [5,3,0,11,4,7,0,53,24,2,12] fun b32 hb32=>Aw (fun hc32=>?_) fun hc32=>?_
 ·have hlt:x < s.size:=by omega
  rw [if_pos hlt] at hpe
  refine Rn [16,5,14,5,3,0,31,38,2,12] fun b37 hb37=>Aw (fun hc37=>?_) fun hc37=>?_
  ·have h1:xs.length=10000:=by omega
   rw [if_pos h1] at hpe
   refine Zs ?_
   refine bc 7 ?_
   refine Rn [0,11,4,7,1,1,1,2,6,8,15,8,8,15,8] ?_
   have eP:aK s=([],((x:Nat):Int),2):=by rw [eR]; exact hpe
   refine dJ rfl rfl rfl rfl (fun w' hm=>⟨_,by rw [eP] <;> rfl,hm.b,by rw [eP]; exact aT⟩)
  have h1:¬xs.length=10000:=by omega
  rw [if_neg h1] at hpe
  refine Rn [23,0] ?_
  refine aI (τ:=Unit) (v:=.tuple #[.string (cX s g x).1.1,Vi (cX s g x).1.2.1,Vi (cX s g x).1.2.2]) (fun _=>True) (fun _=>aA 134 R++(Bk p (bE g s ((cX s g x).2)) 207)::[]) rfl rfl Tryz.func156 Zk rfl (fun w1 hw1=>(c_tag g s x w1 hw1 hs hx).mono fun e w2 h=>⟨h.1,(),trivial,h.2⟩) fun _ _=>?_
  refine Rn [0,20,20,20,1,1,1,2,5,3,0,37,2,12] fun b49 hb49=>Aw (fun hc49=>?_) fun hc49=>?_
  ·rw [if_pos hc49] at hpe
   refine Rn [3,0,0,1,1,1,2,6,8,15,8,8,15,8] ?_
   have eP:aK s=([],(cX s g x).1.2.1,(cX s g x).1.2.2):=by rw [eR]; exact hpe
   refine dJ rfl rfl rfl rfl (fun w' hm=>⟨_,by rw [eP] <;> rfl,hm.b,by rw [eP]; exact aT⟩)
  have hno:¬(cX s g x).1.2.2≠0:=by simpa using hc49
  rw [if_neg hno] at hpe
  obtain ⟨e1,e2,e3,e4⟩:=rL (s:=s) (g:=g) (a:=x) (by simpa using hno)
  have e5:=nY e2 e3
  rw [e1] at hpe ⊢
  dsimp only at hpe ⊢
  refine Rn [23,0] ?_
  refine gB (τ:=Nat) (fun z v wa wb=>w.heap.size≤wa.heap.size∧(∀ k,wa.heap.size≤k→a7 (aA 134 R++(Bk p (bE g s (z)) 207)::[]) k)∧∃ u,v=.tuple #[u,.bool (ja s g (ad s (x+3)) (x+3+1) []).isSome]∧∀ l z',ja s g (ad s (x+3)) (x+3+1) []=some (l,z')→z=z'∧ab (aP aX) (fun b=>wa.heap.size≤b) wb u l) (fun z=>aA 134 R++(Bk p (bE g s (z)) 207)::[]) rfl rfl Tryz.func157 Zk rfl (fun w1 hw1=>(vp g s (x+3) w1 hw1 hs e5 e4).mono fun e w2 ⟨v,h1,z,h2,h3⟩=>⟨v,h1,z,⟨hw1.b.size,fun k hk=>vr hw1 k hk,h2⟩,h3⟩) ?_
  rintro v54 z wa wb hwa ⟨hwl,hno2,u54,rfl,hel⟩ hwb
  have hE:∃ q,ja s g (ad s (x+3)) (x+3+1) []=q:=⟨_,rfl⟩
  obtain ⟨q,hE⟩:=hE
  rw [hE] at hpe hel ⊢
  refine Rn [0,20,48,1,1,2,5,3,0,43,2,12] fun b56 hb56 b58 hb58=>Aw (fun hc58=>?_) fun hc58=>?_
  ·have hq:q=none:=by cases q with | none=>rfl | some y=>simp at hc58
   subst hq
   refine Rn [3,0,53,1,1,1,2,6,8,15,8,8,15,8] ?_
   have eP:aK s=([],((s.size:Nat):Int),10):=by rw [eR]; exact hpe
   refine dJ rfl rfl rfl rfl (fun w' hm=>⟨_,by rw [eP] <;> rfl,hm.b,by rw [eP]; exact aT⟩)
  obtain ⟨l,z2,rfl⟩:∃ l z2,q=some (l,z2):=by cases q with | none=>simp at hc58 | some y=>exact ⟨y.1,y.2,rfl⟩
  obtain ⟨rfl,hl⟩:=hel l z2 rfl
  obtain ⟨Au,cu,rfl,hu1,hu2,_⟩:=id hl
  have hadv:=rJ (by omega) hE
  obtain ⟨css,hcl,hrow,hrd⟩:=hT
  refine Rn [16,18,0,0,0] ?_
  refine Xv rfl (aH (places:=[(0,1),(1,1)]) jE eY Zk rfl rfl) ?_
  refine ac (cs:=[Value.string (aQ s x),.slice Au l.length cu]) rfl rfl rfl jH bQ eY rfl rfl rfl ?_
  intro p65
  refine be (e:=134) [(Bk p65 [Value.string (aQ s x),.slice Au l.length cu] 134)] (l2:=[(Bk p (bE g s (z)) 207)]) R (len:=xs.length) (xs:=css.flatten) rfl rfl rfl rfl rfl hrow jH qA rfl rfl (m:=1) (news:=[Value.string (aQ s x),.slice Au l.length cu]) (fun i hi=>aa (vs:=[Value.string (aQ s x),.slice Au l.length cu]) (.head _) (by rw [Nat.zero_add]; exact List.getElem?_eq_getElem hi)) rfl Zx (by omega) fun R' hR'=>?_
  refine Rn [1,13,27,17,18,0] ?_
  refine aI (τ:=Unit) (v:=.tuple #[]) (fun _=>True) (fun _=>[(Bk p65 [Value.string (aQ s x),.slice Au l.length cu] 134)]++(aA 134 R'++(Bk p (bE g s (bI s z)) 207)::[])) rfl rfl Tryz.func155 Zk rfl (fun w1 hw1=>(c_skip (l1:=(Bk p65 [Value.string (aQ s x),.slice Au l.length cu] 134)::aA 134 R') g s z w1 (hw1.to rfl) hs hadv.2).mono fun e w2 h=>⟨h.1,(),trivial,h.2⟩) fun _ _=>?_
  refine Ze ?_
  refine qj (aA 134 R'++(Bk p (bE g s (bI s z)) 207)::[]) Ls (fun w0 hm0=>?_)
  have hse:=mm (s:=s) _ z rfl
  have hsr:=iI (s:=s) hadv.2
  have hok:iD (aQ s x):=by unfold iD; omega
  have hT':=nV (T:=aZ) (D:=dC w (aA 134 R'++(Bk p (bE g s (bI s z)) 207)::[])) (ws:=w0) (x:=⟨aQ s x,l⟩) rfl hcl (fun j h1 h2=>aZ.keep (hrd j h1 h2) (aV.frz hm0 Ls (by simp))) hR' (bk rfl hok (hl.keep (aV.made2 (hm0.less Ls (fun _ h=>h)) (.head _) hno2 hwl)))
  exact aJ (x:=(x,xs,R,ws)) (μ:=fun q:Nat×List Seg×ak×World=>s.size - q.1) (bI s z,xs++[⟨aQ s x,l⟩],R',w0) ⟨hsr.2,hse,by dsimp only; rw [hpe,jT s g _ _ hsr.2]; dsimp only; rw [jT s g z _ hadv.2,hse],by simp; omega,by simp; omega,hT'⟩ (by simp only; omega) (by dsimp only; rw [List.length_append,List.length_singleton]; repeat (first | exact je.nil | refine je.cons rfl ?_)) (fun w1 h=>h.less (List.Sublist.refl _) (fun q hq=>by simp at hq ⊢; rcases hq with h | h; (· exact .inl h); simp [h]))
 have hlt:¬x < s.size:=by omega
 rw [if_neg hlt] at hpe
 refine Rn [34,19,19,35,17,3,0,1,1,1,2,6] ?_
 refine dJ rfl rfl rfl rfl (fun w' hm=>?_)
 have eP:aK s=(xs,0,0):=by rw [eR]; exact hpe
 refine ⟨_,by rw [eP] <;> rfl,hm.b,?_⟩
 rw [eP]
 exact (hT.keep (aV.frz hm (List.Sublist.refl _) (.head _))).rd (e:=134) hm (fun p hp=>List.mem_append_left _ hp) (fun _ h=>h.1) (fun p hp=>hm.newer (by simp) (List.mem_append_left _ hp)) rfl
open Go.RowKit Go.PK
theorem c_rright (g:Sg) (w:World) :
  Calls Tryz.prog 134 #[.agg g.cells.toArray] w fun e w'=>e=.returned (.bool (decide (eX g)))∧Later w w':=by
 refine enter Tryz.func134 rfl Tryz.ntmps134 rfl ?_
 refine Rn [3,36,1,2,5,3,1,2,14] fun p1=>?_
 refine aO (σ:=Nat) (fun x=>x≤4∧mp (gl g) x) (fun x=>[(1,Pt p1),(3,Vi (x:Nat))]) (fun x=>[(Bk p1 g.cells 184)]) (fun x=>[(w,fun _=>True)]) (fun x=>4 - x) (0) (⟨Nat.zero_le _,trivial⟩) (aC Zu (fun _ h=>h)) ?_
 rintro k ⟨hk,hr⟩
 refine Rn [144,5,3,0,24,2,12] fun b7 hb7=>Aw (fun hc7=>?_) fun hc7=>?_
 ·have hk4:k < 4:=by omega
  have hkl:k≤(gl g).length:=by show k≤4; omega
  refine Rn [16,5,14,3,0] ?_
  refine Xv rfl (bp lJ lq rfl rfl Zo rfl) (Xl rfl u5 rfl (aa (vs:=g.cells) (.head _) (by rw [Nat.zero_add,Nat.mul_one]; exact qC g hk4)) ?_)
  refine Rn [1,2,5,3,0,85,0,21,69,21,71] fun b14 hb14 b17 hb17=>?_
  refine fp [(b14,false)] rfl rfl rfl rfl rfl (fun hg=>by obtain ⟨hg0,hg1,_⟩:=hg; subst hg0; subst hg1; (try simp only [Qy]); exact nM rfl rfl) fun b20 hb20=>?_
  refine Rn [81,25,0,21,69,21,71] fun b21 hb21 b22 hb22 b25 hb25=>?_
  refine fp [(b22,false)] rfl rfl rfl rfl rfl (fun hg=>by obtain ⟨hg0,hg1,_⟩:=hg; subst hg0; subst hg1; (try simp only [Qy]); exact nM rfl rfl) fun b28 hb28=>?_
  refine Rn [81,25,0,21,69,21,71] fun b29 hb29 b30 hb30 b33 hb33=>?_
  refine fp [(b30,false)] rfl rfl rfl rfl rfl (fun hg=>by obtain ⟨hg0,hg1,_⟩:=hg; subst hg0; subst hg1; (try simp only [Qy]); exact nM rfl rfl) fun b36 hb36=>?_
  refine Rn [81,25,2,10] fun b37 hb37 b38 hb38=>Aw (fun hc38=>?_) fun hc38=>?_
  ·simp only [hb38,hb37,hb36,hb33,hb30,hb29,hb28,hb25,hb22,hb21,hb20,hb17,hb14,Qz,ne_eq] at hc38
   have hal:iK ((gl g).getD k 0):=by unfold iK; omega
   have hB:jz (gl g) k:=.inl hal
   refine Rn [3,1,2,6,8,15,8,8,15,8] ?_
   refine aw rfl rfl (fun w' hm=>⟨?_,hm.b⟩)
   rw [decide_eq_false (fun hs=>kc hk4 ((gJ g).1 hs) hB)]
  simp only [hb38,hb37,hb36,hb33,hb30,hb29,hb28,hb25,hb22,hb21,hb20,hb17,hb14,Qz,ne_eq] at hc38
  have hal:¬iK ((gl g).getD k 0):=by unfold iK; omega
  refine Rn [23,1,2,14] ?_
  refine aO (σ:=Nat) (fun y=>y≤k∧∀ i,i < y→(gl g).getD i 0≠((gl g).getD k 0)) (fun y=>[(1,Pt p1),(3,Vi (k:Nat)),(4,Value.int .u8 (((gl g).getD k 0).toNat:Nat)),(5,Vi (y:Nat))]) (fun y=>[(Bk p1 g.cells 184)]) (fun y=>[(w,fun _=>True)]) (fun y=>k - y) (0) (⟨Nat.zero_le _,by intros; omega⟩) (aC Zu (fun _ h=>h)) ?_
  rintro j ⟨hj,hno⟩
  refine Rn [144,5,3,0,0,24,2,12] fun b41 hb41=>Aw (fun hc41=>?_) fun hc41=>?_
  ·have hjk:j < k:=by omega
   refine Rn [16,5,14,3,0] ?_
   refine Xv rfl (bp lJ lq rfl rfl Zo rfl) (Xl rfl u5 rfl (aa (vs:=g.cells) (.head _) (by rw [Nat.zero_add,Nat.mul_one]; exact qC g (by omega))) ?_)
   refine Rn [0,38,2,12] fun b48 hb48=>Aw (fun hc48=>?_) fun hc48=>?_
   ·have hB:jz (gl g) k:=.inr ((qB hkl).2 ⟨j,hjk,s5.1 hc48⟩)
    refine Rn [3,1,2,6,15,8,8,15,15,8,8,15,8] ?_
    refine aw rfl rfl (fun w' hm=>⟨?_,hm.b⟩)
    rw [decide_eq_false (fun hs=>kc hk4 ((gJ g).1 hs) hB)]
   have hne:((gl g).getD j 0)≠((gl g).getD k 0):=fun h=>hc48 (s5.2 h)
   refine Rn [45,27,17,18,0,26,1,13] ?_
   exact aJ (j+1) ⟨by omega,fun i hi=>by rcases Nat.lt_succ_iff_lt_or_eq.1 hi with h | rfl; (· exact hno i h); exact hne⟩ (by omega) Zu (fun _ h=>h)
  obtain rfl:j=k:=by omega
  refine Rn [34,19,19,35,27,17,18,0,26,1,13] ?_
  exact aJ (j+1) ⟨by omega,hr,fun h=>by rcases h with h | h; (· exact hal h); obtain ⟨i,hi,he⟩:=(qB hkl).1 h; exact hno i hi he⟩ (by omega) Zu (fun _ h=>h)
 obtain rfl:k=4:=by omega
 refine Rn [34,19,19,35,17,3,1,2,6] ?_
 refine aw rfl rfl (fun w' hm=>⟨?_,hm.b⟩)
 rw [decide_eq_true ((gJ g).2 hr)]
open Go.RowKit Go.PK
theorem tV (g:Sg) (s:ByteArray) (a:Nat) (w:World) (hs:s.size≤200000000) (hrs:eX g) (ha:a < s.size) (hen:ad s a=g.e∨ad s a=g.n) :
  Calls Tryz.prog 135 #[.string s,Vi (a:Nat),.agg g.cells.toArray] w fun e w'=>∃ u n,e=.returned (.tuple #[u,Vi n,.bool (ja s g (ad s a) (a+1) []).isSome])∧Later w w'∧∀ l z,ja s g (ad s a) (a+1) []=some (l,z)→n=(z:Nat)∧ab (aP aX) (fun b=>w.heap.size≤b) w' u l:=by
 refine enter Tryz.func135 rfl Tryz.ntmps135 rfl ?_
 refine Rn [3,36,1,1,1,9,1,9,1,9,1,2,5,14] fun p5=>?_
 refine aO (σ:=Nat×List UInt8×Bool×List (List ByteArray)×ak×List ak) (fun x=>x.1≤s.size∧((x.2.2.1=false∧x.1=a∧x.2.1=[]∧x.2.2.2.1=[])∨(x.2.2.1=true∧x.2.2.2.1≠[]∧ft s g x.1 x.2.1 x.2.2.2.1=ja s g (ad s a) (a+1) []))∧SSOK x.2.2.2.2.1 x.2.2.2.2.2 x.2.2.2.1∧x.2.1.length≤x.1∧x.2.2.2.1.length≤x.1∧∀ y∈x.2.2.2.1,y.length≤x.1∧∀ t∈y,t.size≤s.size) (fun x=>[(0,Value.string s),(1,Vi (x.1:Nat)),(5,Pt p5),(9,au x.2.2.2.2.1 x.2.2.2.1.length),(10,Value.string ⟨x.2.1.toArray⟩),(11,Value.bool x.2.2.1)]) (fun x=>aA 78 x.2.2.2.2.1++(rU 9 x.2.2.2.2.2++[(Bk p5 g.cells 184)])) (fun x=>[(w,fun _=>True)]) (fun x=>s.size - x.1) ((a,[],false,[],none,[])) (⟨Nat.le_of_lt ha,.inl ⟨rfl,rfl,rfl,rfl⟩,SSOK.nil,Nat.zero_le _,Nat.zero_le _,fun y hy=>by cases hy⟩) (aC Zu (fun _ h=>h)) ?_
 rintro ⟨x,bs,o,xs,R,Ss⟩ ⟨hx,hst,hS,hbl,hz1,hz2⟩
 refine Rn [144] ?_
 dsimp only at hx hst hS hbl hz1 hz2
 have ho:True:=trivial
 refine Rn [5,3,0,0,53,24,2,10] fun b16 hb16=>Aw (fun hc16=>?_) fun hc16=>?_
 ·simp only [hb16,Qz,ne_eq] at hc16
  have hlt:x < s.size:=by omega
  refine Rn [16,14,3,0,0] ?_
  refine Xv rfl (bv u9 rfl rfl (hlt)) ?_
  refine Rn [1,9,0,26,1,2,5,3,0] ?_
  refine Xv rfl (bp (j:=2) (off':=2) lJ lq rfl rfl Zo rfl) ?_
  refine Rn [7,38,0,21,30,2,10] fun b25 hb25 b28 hb28=>Aw (fun hc28=>?_) fun hc28=>?_
  ·simp only [hb28,ho,hb25,Qz,ne_eq] at hc28
   obtain ⟨hrl,ho⟩:=hc28
   have hrl:ad s x=g.r:=s5.1 hrl
   subst ho
   have hop:xs≠[]∧ft s g x bs xs=ja s g (ad s a) (a+1) []:=by rcases hst with ⟨h1,_⟩ | h; (· cases h1); exact h.2
   have hns:¬(ad s x=g.c∨ad s x=g.e∨ad s x=g.n):=by rw [hrl]; obtain ⟨_,_,⟨k1,k2⟩,_,_,k3⟩:=hrs; rintro (h | h | h); (· exact k1 h); (· exact k2 h); exact k3 h.symm
   refine Rn [5,3,0,0,53,38,2,12] fun b32 hb32=>Aw (fun hc32=>?_) fun hc32=>?_
   ·have he:x+1=s.size:=by omega
    have hnone:ja s g (ad s a) (a+1) []=none:=by rw [← hop.2,cont_end hlt hns hrl he]
    refine Rn [3,1,1,1,2,6,8,8,15,8,15,8] ?_
    refine dJ rfl rfl rfl rfl (fun w' hm=>?_)
    refine ⟨_,0,by rw [hnone]; rfl,hm.b,fun l z h=>?_⟩
    rw [hnone] at h; cases h
   have he:¬x+1=s.size:=by omega
   refine Rn [23,0,0,0,0,26] ?_
   refine Xv (v:=.string (s.extract (x+1) (x+2))) rfl (v_cut (i:=x+1) (j:=x+2) u9 rfl rfl rfl (by omega) (by omega)) (Xv (v:=.string ⟨(bs++[ad s (x+1)]).toArray⟩) rfl (by rw [← str_cut bs (by omega)]; exact cK rfl rfl (by rw [ByteArray.size_extract,show (⟨bs.toArray⟩:ByteArray).size=bs.length from List.size_toArray]; omega)) ?_)
   refine Rn [1,9,0,26,1,2,34,19,35] ?_
   exact aJ (x+2,bs++[ad s (x+1)],true,xs,R,Ss) ⟨by dsimp only; omega,.inr ⟨rfl,hop.1,by dsimp only; rw [← hop.2,cont_rel hlt hns hrl he]⟩,hS,by dsimp only; rw [List.length_append,List.length_singleton]; omega,by dsimp only; omega,fun y hy=>⟨by have:=(hz2 y hy).1; dsimp only; omega,(hz2 y hy).2⟩⟩ (by simp only; omega) Zu (fun _ h=>h)
  simp only [hb28,ho,hb25,Qz,ne_eq] at hc28
  have hnr:¬(ad s x=g.r∧o=true):=fun ⟨h1,h2⟩=>by rw [h2] at hc28; rcases hc28 with h | h; (· exact h (s5.2 h1)); cases h
  refine Rn [16,5,3,0] ?_
  refine Xv rfl (bp (j:=0) (off':=0) lJ lq rfl rfl Zo rfl) ?_
  refine Rn [7,37,0,21] fun b45 hb45=>?_
  refine Xi rfl rfl rfl (fun hg0=>by subst hg0; (try simp only [Qy]); exact bp (j:=1) (off':=1) lJ lq rfl rfl Zo rfl) ?_
  refine Rn [40,74,30,0,21] fun b50 hb50 b51 hb51=>?_
  refine Xi rfl rfl rfl (fun hg0=>by subst hg0; (try simp only [Qy]); exact bp (j:=3) (off':=3) lJ lq rfl rfl Zo rfl) ?_
  refine Rn [40,74,30,2,10] fun b56 hb56 b57 hb57=>Aw (fun hc57=>?_) fun hc57=>?_
  ·simp only [hb57,hb56,hb51,hb50,hb45,Qz,ne_eq] at hc57
   have hns:¬(ad s x=g.c∨ad s x=g.e∨ad s x=g.n):=by rintro (h | h | h) <;> (rw [h] at hc57; simp at hc57)
   have hop:o=true∧xs≠[]∧ft s g x bs xs=ja s g (ad s a) (a+1) []:=by rcases hst with ⟨h1,h2,_⟩ | h; (· exfalso; subst h2; rcases hen with h | h; (· exact hns (.inr (.inl h))); exact hns (.inr (.inr h))); exact h
   have hnr2:¬ad s x=g.r:=fun h=>hnr ⟨h,hop.1⟩
   refine Rn [3,0,0] ?_
   refine ac (cs:=[Value.int .u8 ((ad s x).toNat:Nat)]) rfl rfl rfl jU lq vk rfl rfl rfl ?_
   intro p60
   refine Xv rfl (ji [(ad s x)] jU u5 u9 rfl rfl (fun j hj=>aa (vs:=[Value.int .u8 ((ad s x).toNat:Nat)]) (.head _) (by match j,hj with | 0,_=>rfl))) (Xv (v:=.string ⟨(bs++[(ad s x)]).toArray⟩) rfl (by rw [← tR]; exact cK rfl rfl (by show bs.toArray.size+1≤_; rw [List.size_toArray]; omega)) ?_)
   refine Rn [1,2,34,19,35] ?_
   obtain ⟨rfl,hop⟩:=hop
   exact aJ (x+1,bs++[ad s x],true,xs,R,Ss) ⟨by dsimp only; omega,.inr ⟨rfl,hop.1,by dsimp only; rw [← hop.2,yD hlt hns hnr2]⟩,hS,by dsimp only; rw [List.length_append,List.length_singleton]; omega,by dsimp only; omega,fun y hy=>⟨by have:=(hz2 y hy).1; dsimp only; omega,(hz2 y hy).2⟩⟩ (by simp only; omega) Zu (fun _ h=>h.less Ls (fun _ h=>h))
  simp only [hb57,hb56,hb51,hb50,hb45,Qz,ne_eq] at hc57
  have hsep:ad s x=g.c∨ad s x=g.e∨ad s x=g.n:=by
   rcases hc57 with (h | h) | h
   ·exact .inl (s5.1 h)
   ·exact .inr (.inl (s5.1 h))
   exact .inr (.inr (s5.1 h))
  refine Rn [16] ?_
  refine cO (σ:=List (List ByteArray)×ak×List ak) (fun q=>ja s g (ad s x) (x+1) q.1=ja s g (ad s a) (a+1) []∧((ad s x)=g.e∨(ad s x)=g.n∨q.1≠[])∧SSOK q.2.1 q.2.2 q.1∧q.1.length≤x∧∀ y∈q.1,y.length≤(x+1)∧∀ t∈y,t.size≤s.size) (fun q=>[(0,Value.string s),(1,Vi ((x:Int)+1)),(5,Pt p5),(9,au q.2.1 q.1.length),(12,Value.int .u8 ((ad s x).toNat:Nat))]) (fun q=>aA 78 q.2.1++(rU 9 q.2.2++[(Bk p5 g.cells 184)])) (fun q=>[(w,fun _=>True)]) ?_ ?_
  ·refine Rn [3,0,2,10] (Aw (fun hc63=>?_) fun hc63=>?_)
   ·subst hc63
    have hop:xs≠[]∧ft s g x bs xs=ja s g (ad s a) (a+1) []:=by rcases hst with ⟨h1,_⟩ | h; (· cases h1); exact h.2
    have hpt:(⟨bs.toArray⟩:ByteArray).size≤s.size:=by show bs.toArray.size≤_; rw [List.size_toArray]; omega
    obtain ⟨ys,y,Ts,S,bb,cs,cp,rfl,rfl,rfl⟩:=hS.last hop.1
    rw [iM,List.append_assoc]
    obtain ⟨hla,hlt2⟩:=hS.lastAt
    have hyl:=hz2 y (by simp)
    have hzl:ys.length+1≤x:=by simpa using hz1
    have hcp:ys.length+1≤cp:=by have:=hS.row.2.1; simpa using this
    refine Rn [18,0,0,31] ?_
    refine Xv rfl (dH (c:=(ys.length:Int)) rfl rfl (by simp only [List.length_append,List.length_singleton]; omega) (by omega)) ?_
    refine Rn [0,0,31] ?_
    refine Xv rfl (dH (c:=(ys.length:Int)) rfl rfl (by simp only [List.length_append,List.length_singleton]; omega) (by omega)) (Xv rfl (ae dd fw rfl rfl (by simp only [List.length_append,List.length_singleton]; omega) rfl) (Xl rfl ez rfl (aa (vs:=cs) (.head _) (show cs[0+ys.length*1]?=some (au S y.length) from by rw [Nat.mul_one,Nat.zero_add]; exact hla)) (Xm ?_)))
    refine ac rfl rfl rfl ez gG kA rfl rfl rfl ?_
    intro p75
    refine be (e:=9) [(p75,_),(bb,.cells cs.toArray 78 (0,0))] (l2:=rU 9 Ts++[(Bk p5 g.cells 184)]) S (len:=y.length) (xs:=y.map Value.string) rfl rfl rfl rfl rfl hS.lastOK ez ap9 rfl rfl (m:=1) (news:=[Value.string ⟨bs.toArray⟩]) (fun i hi=>aa (vs:=[Value.string ⟨bs.toArray⟩]) (.head _) (by rw [Nat.zero_add]; exact List.getElem?_eq_getElem hi)) rfl Zx (by omega) fun S' hS'=>?_
    refine Xv rfl (ae dd fw rfl rfl (by simp only [List.length_append,List.length_singleton]; omega) rfl) ?_
    refine aG (cs:=cs) (off:=0+ys.length*1) [(p75,_)] rfl rfl rfl rfl fw rfl (by rw [Nat.mul_one,Nat.zero_add]; omega) ?_
    rw [show 0+ys.length*1=ys.length by omega,tP hlt2]
    refine Ze ?_
    have hS3:SSOK (some (bb,cs.set ys.length (au S' (y.length+1)),cp)) (Ts++[S']) (ys++[y++[⟨bs.toArray⟩]]):=by have h:=hS.setlast (S':=S') (y':=y++[⟨bs.toArray⟩]) (by simpa using hS'); simpa using h
    refine cv (ys++[y++[⟨bs.toArray⟩]],some (bb,cs.set ys.length (au S' (y.length+1)),cp),Ts++[S']) ⟨by dsimp only; rw [← hop.2,cont_sep hlt hsep,gj],.inr (.inr (by simp)),hS3,by dsimp only; rw [List.length_append,List.length_singleton]; omega,fun y' hy'=>?_⟩ (by dsimp only; rw [show (ys++[y++[(⟨bs.toArray⟩:ByteArray)]]).length=(ys++[y]).length by simp]; repeat (first | exact je.nil | refine je.cons rfl ?_)) (fun w1 h=>(h.less Ls (fun _ h=>h)).to (by dsimp only; rw [iM,List.append_assoc]; rfl))
    rcases List.mem_append.1 hy' with h | h
    ·obtain ⟨q1,q2⟩:=hz2 y' (List.mem_append_left _ h); exact ⟨by omega,q2⟩
    rw [List.mem_singleton.1 h]; refine ⟨by rw [List.length_append,List.length_singleton]; omega,fun t ht=>?_⟩
    rcases List.mem_append.1 ht with ht | ht
    ·exact hyl.2 t ht
    rw [List.mem_singleton.1 ht]; exact hpt
   subst hc63
   refine eA ?_
   obtain ⟨_,rfl,rfl,rfl⟩:false=false∧x=a∧bs=[]∧xs=[]:=by rcases hst with h | h; (· exact h); cases h.1
   exact cv ([],R,Ss) (⟨rfl,by rcases hen with h | h; (· exact .inl h); exact .inr (.inl h),hS,Nat.zero_le _,fun y hy=>by cases hy⟩) Zu (fun _ h=>h)
  rintro ⟨zs,R2,S2⟩ ⟨hE,hne,hS2,hy1,hy2⟩
  refine Rn [144] ?_
  dsimp only at hE hne hS2 hy1 hy2
  refine Rn [3,1,2,5,3,0] ?_
  refine Xv rfl (bp (j:=3) lJ lq rfl rfl Zo rfl) ?_
  refine Rn [7,38,2,12] fun b81 hb81=>Aw (fun hc81=>?_) fun hc81=>?_
  ·have hcn:ad s x=g.n:=s5.1 hc81
   have hfin:ja s g (ad s a) (a+1) []=some (zs,x+1):=by rw [← hE,qs,if_pos hcn]
   refine Rn [3,0,0,1,1,1,2,6,8,15,8,15,8] ?_
   refine dJ rfl rfl rfl rfl (fun w' hm=>?_)
   refine ⟨_,((x:Int)+1),by rw [hfin]; rfl,hm.b,fun l z h=>?_⟩
   rw [hfin] at h; injection h with h; injection h with h1 h2; subst h1; subst h2
   exact ⟨by omega,hS2.rd (eR:=78) (eS:=9) rfl (fun q hq t ht=>by have:=(hy2 q hq).2 t ht; unfold iD; omega) hm (fun q hq=>List.mem_append_left _ hq) (fun q hq=>List.mem_append_right _ (List.mem_append_left _ hq)) (fun q hq=>hm.newer (by simp) (List.mem_append_left _ hq)) (fun q hq=>hm.newer (by simp) (List.mem_append_right _ (List.mem_append_left _ hq)))⟩
  have hcn:¬ad s x=g.n:=fun h=>hc81 (s5.2 h)
  rw [el_cont hcn] at hE
  refine Rn [16,5,3,0] ?_
  refine Xv rfl (bp (j:=1) lJ lq rfl rfl Zo rfl) ?_
  refine Rn [7,38,2,12] fun b87 hb87=>Aw (fun hc87=>?_) fun hc87=>?_
  ·have hce:ad s x=g.e:=s5.1 hc87
   refine Zr (Xm ?_)
   refine ac rfl rfl rfl dd fw rR rfl rfl rfl ?_
   intro p89
   refine be (e:=78) [(p89,_)] (l2:=rU 9 S2++[(Bk p5 g.cells 184)]) R2 (len:=zs.length) (xs:=vo zs S2) rfl rfl rfl rfl rfl hS2.row dd ap78 rfl rfl (m:=1) (news:=[Value.slice none 0 0]) (fun i hi=>aa (vs:=[Value.slice none 0 0]) (.head _) (by rw [Nat.zero_add]; exact List.getElem?_eq_getElem hi)) rfl Zx (by omega) fun R' hR'=>?_
   refine Rn [1,2,18,1,13,27] ?_
   exact aJ (x+1,[],true,zs++[[]],R',S2++[none]) ⟨by dsimp only; omega,.inr ⟨rfl,by simp,by dsimp only; rw [← hE]; unfold jS; rw [if_pos hce]⟩,hS2.snoc hR' bG,Nat.zero_le _,by dsimp only; rw [List.length_append,List.length_singleton]; omega,fun y hy=>by rcases List.mem_append.1 hy with h | h; (· exact hy2 y h); rw [List.mem_singleton.1 h]; exact ⟨Nat.zero_le _,fun t ht=>by cases ht⟩⟩ (by simp only; omega) (by dsimp only; rw [List.length_append,List.length_singleton]; repeat (first | exact je.nil | refine je.cons rfl ?_)) (fun w1 h=>(h.less Ls (fun _ h=>h)).to (by dsimp only; rw [iM]; rfl))
  have hce:¬ad s x=g.e:=fun h=>hc87 (s5.2 h)
  refine Rn [16,18,1,13,27] ?_
  exact aJ (x+1,[],true,zs,R2,S2) ⟨by dsimp only; omega,.inr ⟨rfl,by rcases hne with h | h | h; (· exact absurd h hce); (· exact absurd h hcn); exact h,by dsimp only; rw [← hE]; unfold jS; rw [if_neg hce]⟩,hS2,Nat.zero_le _,by dsimp only; omega,hy2⟩ (by simp only; omega) Zu (fun _ h=>h)
 simp only [hb16,decide_eq_false_iff_not] at hc16
 have hlt:¬x < s.size:=by omega
 have hop:o=true∧xs≠[]∧ft s g x bs xs=ja s g (ad s a) (a+1) []:=by rcases hst with ⟨h1,h2,_⟩ | h; (· exfalso; omega); exact h
 have hnone:ja s g (ad s a) (a+1) []=none:=by rw [← hop.2.2,yE hlt]
 refine Rn [34,19,19,35,17,3,1,1,1,2,6] ?_
 refine dJ rfl rfl rfl rfl (fun w' hm=>?_)
 refine ⟨_,0,by rw [hnone]; rfl,hm.b,fun l z h=>?_⟩
 rw [hnone] at h; cases h
open Go.RowKit Go.PK
theorem gK (s:ByteArray) (w:World) (hs:s.size≤200000000) :
  Calls Tryz.prog 85 #[.string s] w fun e w'=>∃ v,e=.returned (.tuple #[v,Vi (aK s).2.1,Vi (aK s).2.2])∧Later w w'∧ab aZ (fun b=>w.heap.size≤b) w' v (aK s).1:=by
 refine enter Tryz.func85 rfl Tryz.ntmps85 rfl ?_
 refine Rn [3,1,1,1,9] ?_
 refine Xv rfl (nT lJ wR lq rfl rfl) ?_
 refine Rn [28,32,9,1,2] fun p5=>?_
 refine cO (σ:=Sg×Nat) (fun q=>(ci s).1=some (q.1,q.2)) (fun q=>[(0,Value.string s),(5,Pt p5),(6,Vi (q.2:Nat))]) (fun q=>[(Bk p5 q.1.cells 184)]) (fun q=>[(w,fun _=>True)]) ?_ ?_
 ·refine Rn [3,0,53,57,0,21] fun b18 hb18=>?_
  refine Xi rfl rfl rfl (fun hg0=>by subst hg0; (try simp only [Qy]); have h3:=of_decide_eq_true hb18.symm; exact iF (j:=3) u9 rfl rfl (by omega)) ?_
  refine Rn [92,30,2,10] fun b22 hb22 b23 hb23=>Aw (fun hc23=>?_) fun hc23=>?_
  ·simp only [hb23,hb22,hb18,Qz,ne_eq] at hc23
   have hu:pT s:=⟨by omega,hc23.2⟩
   refine Rn [5,3,0,53,24,2,12] fun b26 hb26=>Aw (fun hc26=>?_) fun hc26=>?_
   ·have h9:s.size < 9:=by omega
    have eO:ci s=(none,((s.size:Nat):Int),10):=by unfold ci; rw [if_pos hu,if_pos h9]
    have eP:aK s=([],((s.size:Nat):Int),10):=by rw [iN,eO]
    refine Rn [3,0,53,1,1,1,2,6,8,8] ?_
    refine dJ rfl rfl rfl rfl (fun w' hm=>⟨_,by rw [eP] <;> rfl,hm.b,by rw [eP]; exact aT⟩)
   have h9:¬s.size < 9:=by omega
   refine Rn [16,5] ?_
   refine bc 9 ?_
   refine Xm ?_
   refine Xv rfl (bv (j:=3) u9 rfl rfl (by omega)) (Xm ?_)
   refine Xv rfl (bv (j:=4) u9 rfl rfl (by omega)) (Xm ?_)
   refine Xv rfl (bv (j:=6) u9 rfl rfl (by omega)) (Xm ?_)
   refine Xv rfl (bv (j:=8) u9 rfl rfl (by omega)) (Xv rfl (nT lJ wR lq rfl rfl) ?_)
   refine Rn [32,2,5] ?_
   refine ey _ [(p5,Obj.cells (jk s).cells.toArray 184)] _ ?_
   refine Rn [18,1,9,39] ?_
   refine Xh rfl Tryz.func134 rfl (fun w1 hw1=>c_rright (jk s) w1) fun b39 hb39=>?_
   refine Rn [1,9,0,43,2,10] fun b41 hb41=>Aw (fun hc41=>?_) fun hc41=>?_
   ·have hr:¬eX (jk s):=by rw [hb41,hb39] at hc41; simpa using hc41
    have eO:ci s=(none,3,11):=by unfold ci; rw [if_pos hu,if_neg h9,if_neg hr]
    have eP:aK s=([],3,11):=by rw [iN,eO]
    refine Rn [3,1,1,1,2,6,8] ?_
    refine dJ rfl rfl rfl rfl (fun w' hm=>⟨_,by rw [eP] <;> rfl,hm.b,by rw [eP]; exact aT⟩)
   have hr:eX (jk s):=by rw [hb41,hb39] at hc41; simpa using hc41
   have eO:ci s=(some (jk s,9),0,0):=by unfold ci; rw [if_pos hu,if_neg h9,if_pos hr]
   refine eA ?_
   exact cv (jk s,9) (by rw [eO]) Zu (fun _ h=>h)
  simp only [hb23,hb22,hb18,Qz,ne_eq] at hc23
  have hu:¬pT s:=fun ⟨h1,h2⟩=>by rcases hc23 with h | h; (· omega); exact h h2
  have eO:ci s=(some (bO,0),0,0):=by unfold ci; rw [if_neg hu]
  refine eA ?_
  exact cv (bO,0) (by rw [eO]) Zu (fun _ h=>h)
 rintro ⟨g,a⟩ ho
 refine Rn [144] ?_
 have eR:=iN s
 rw [ho] at eR
 dsimp only at eR
 have ha:=(oe s ho).1
 have hrs:=vt s ho
 refine Rn [3,1,2,14] ?_
 refine qk (aA 134 none++[(Bk p5 g.cells 184)]) (List.Sublist.refl _) (fun w0 hm0=>?_)
 refine aO (σ:=Nat×List Seg×ak×World) (fun x=>x.1≤s.size∧lG s g x.1 x.2.1=lG s g a []∧x.2.1.length≤10000∧x.2.1.length≤x.1∧cZ aZ (dC w (aA 134 x.2.2.1++[(Bk p5 g.cells 184)])) x.2.2.2 x.2.2.1 x.2.1) (fun x=>[(0,Value.string s),(5,Pt p5),(6,Vi (x.1:Nat)),(8,au x.2.2.1 x.2.1.length)]) (fun x=>aA 134 x.2.2.1++[(Bk p5 g.cells 184)]) (fun x=>(x.2.2.2,a7 (aA 134 x.2.2.1++[(Bk p5 g.cells 184)]))::[(w,fun _=>True)]) (fun x=>s.size - x.1) ((a,[],none,w0)) (⟨ha,rfl,Nat.zero_le _,Nat.zero_le _,cZ.nil⟩) (aC Zu (fun _ h=>h)) ?_
 rintro ⟨x,xs,R,ws⟩ ⟨hx,hP,hn,hnx,hT⟩
 refine Rn [144] ?_
 dsimp only at hx hP hn hnx hT
 have hpe:=jT s g x xs hx
 rw [hP] at hpe
 have hrg:=iI hx
 obtain ⟨B,hB⟩:∃ B,bI s x=B:=⟨_,rfl⟩
 rw [hB] at hpe hrg
 refine Rn [14,5,14] ?_
 refine aO (σ:=Nat) (fun y=>y≤s.size∧bI s y=B) (fun y=>[(0,Value.string s),(5,Pt p5),(6,Vi (y:Nat)),(8,au R xs.length)]) (fun y=>aA 134 R++[(Bk p5 g.cells 184)]) (fun y=>(ws,a7 (aA 134 R++[(Bk p5 g.cells 184)]))::[(w,fun _=>True)]) (fun y=>s.size - y) (x) (⟨hx,hB⟩) (aC Zu (fun _ h=>h)) ?_
 rintro k ⟨hk,hkB⟩
 refine Rn [144,5,3,0,0,53,24,0,21,21] fun b45 hb45=>?_
 refine Xi rfl rfl rfl (fun hg0=>by subst hg0; (try simp only [Qy]); exact bv u9 rfl rfl (by have:=of_decide_eq_true hb45.symm; omega)) ?_
 refine Rn [73,21,71,71] fun b50 hb50=>?_
 refine fV [(b45,true)] rfl rfl rfl rfl rfl (fun hg=>by obtain ⟨hg0,hg1,_⟩:=hg; subst hg0; subst hg1; (try simp only [Qy]); exact bv u9 rfl rfl (by have:=of_decide_eq_true hb45.symm; omega)) ?_
 refine fp [(b45,true)] rfl rfl rfl rfl rfl (fun hg=>by obtain ⟨hg0,hg1,_⟩:=hg; subst hg0; subst hg1; (try simp only [Qy]); exact mS rfl rfl) fun b55 hb55=>?_
 refine Rn [93,21,71,71] fun b56 hb56=>?_
 refine fV [(b45,true)] rfl rfl rfl rfl rfl (fun hg=>by obtain ⟨hg0,hg1,_⟩:=hg; subst hg0; subst hg1; (try simp only [Qy]); exact bv u9 rfl rfl (by have:=of_decide_eq_true hb45.symm; omega)) ?_
 refine fp [(b45,true)] rfl rfl rfl rfl rfl (fun hg=>by obtain ⟨hg0,hg1,_⟩:=hg; subst hg0; subst hg1; (try simp only [Qy]); exact mS rfl rfl) fun b61 hb61=>?_
 refine Rn [93,30,2,10] fun b62 hb62 b63 hb63=>Aw (fun hc63=>?_) fun hc63=>?_
 ·have hgo:k < s.size∧ef (ad s k)=true:=by
   rw [hb63,hb62,hb61,hb56,hb55,hb50,hb45] at hc63
   simp only [Bool.and_eq_true,Bool.or_eq_true,decide_eq_true_eq] at hc63
   exact ⟨by omega,(j9 _).2 hc63.2⟩
  refine Rn [16,14,18,0,26,1,13,27] ?_
  exact aJ (k+1) ⟨by omega,by rw [← rH hgo.1 hgo.2]; exact hkB⟩ (by omega) Zu (fun _ h=>h)
 have hns:¬(k < s.size∧ef (ad s k)=true):=fun ⟨h1,h2⟩=>by
  rw [j9] at h2
  rw [hb63,hb62,hb61,hb56,hb55,hb50,hb45,decide_eq_true (show (k:Int) < s.size by omega)] at hc63
  simp only [Bool.true_and,Bool.or_eq_false_iff,decide_eq_false_iff_not] at hc63
  rcases h2 with (h2 | h2) | h2
  ·exact hc63.1.1 h2
  ·exact hc63.1.2 h2
  exact hc63.2 h2
 obtain rfl:k=B:=by rw [← hkB,eJ hns]
 refine Rn [34,19,19,35,17,5,3,0,0,53,38,2,12] fun b69 hb69=>Aw (fun hc69=>?_) fun hc69=>?_
 ·have hlt:¬k < s.size:=by omega
  rw [if_neg hlt] at hpe
  refine Rn [3,0,1,1,1,2,6,8,15,8,15] ?_
  refine dJ rfl rfl rfl rfl (fun w' hm=>?_)
  have eP:aK s=(xs,0,0):=by rw [eR]; exact hpe
  refine ⟨_,by rw [eP] <;> rfl,hm.b,?_⟩
  rw [eP]
  exact (hT.keep (aV.frz hm (List.Sublist.refl _) (.head _))).rd (e:=134) hm (fun p hp=>List.mem_append_left _ hp) (fun _ h=>h.1) (fun p hp=>hm.newer (by simp) (List.mem_append_left _ hp)) rfl
 have hlt:k < s.size:=by omega
 rw [if_pos hlt] at hpe
 refine Rn [16,5,3,0,31,38,2,12] fun b73 hb73=>Aw (fun hc73=>?_) fun hc73=>?_
 ·have h1:xs.length=10000:=by omega
  rw [if_pos h1] at hpe
  refine Rn [3,0,1,1,1,2,6,8,15,8,15] ?_
  have eP:aK s=([],((k:Nat):Int),2):=by rw [eR]; exact hpe
  refine dJ rfl rfl rfl rfl (fun w' hm=>⟨_,by rw [eP] <;> rfl,hm.b,by rw [eP]; exact aT⟩)
 have h1:¬xs.length=10000:=by omega
 rw [if_neg h1] at hpe
 have hts:=kP (s:=s) (a:=k) hrg.2
 refine Rn [16,5,3,0,1,2,14] ?_
 refine aO (σ:=Nat) (fun y=>k≤y∧y≤k+3∧y≤s.size∧∀ j,k≤j→j < y→eD (ad s j)=true) (fun y=>[(0,Value.string s),(5,Pt p5),(6,Vi (k:Nat)),(8,au R xs.length),(9,Vi (y:Nat))]) (fun y=>aA 134 R++[(Bk p5 g.cells 184)]) (fun y=>(ws,a7 (aA 134 R++[(Bk p5 g.cells 184)]))::[(w,fun _=>True)]) (fun y=>s.size - y) (k) (⟨Nat.le_refl _,by omega,by omega,by intros; omega⟩) (aC Zu (fun _ h=>h)) ?_
 rintro m ⟨hk1,hk2,hk3,hcp⟩
 refine Rn [144,5,3,0,0,26,24,0,21,21,83,72,30,2,12] fun b79 hb79 b84 hb84 b85 hb85=>Aw (fun hc85=>?_) fun hc85=>?_
 ·have hm1:m < k+3∧m < s.size:=by omega
  refine Rn [16,5,14,3,0,0] ?_
  refine Xv rfl (bv u9 rfl rfl (by omega)) (Xh rfl Tryz.func69 rfl (fun w1 hw1=>jq _ w1) fun b91 hb91=>?_)
  refine Rn [1,9,0,43,2,10] fun b93 hb93=>Aw (fun hc93=>?_) fun hc93=>?_
  ·have hnc:¬jQ (aQ s k):=fun h=>by
    have h2:=h (m - k) (by omega)
    rw [nX hrg.2 (by omega),show k+(m - k)=m by omega] at h2
    rw [hb93,hb91,h2] at hc93; cases hc93
   have eT:cX s g k=((⟨#[]⟩,((k:Nat):Int),40),k):=by unfold cX; rw [if_pos hnc]
   rw [eT,if_pos (show (40:Int)≠0 by decide)] at hpe
   refine Rn [3,0,1,1,1,2,6,15,8,8,15,8,15,8,15] ?_
   have eP:aK s=([],((k:Nat):Int),40):=by rw [eR]; exact hpe
   refine dJ rfl rfl rfl rfl (fun w' hm=>⟨_,by rw [eP] <;> rfl,hm.b,by rw [eP]; exact aT⟩)
  have hcap:eD (ad s m)=true:=by rw [hb93,hb91] at hc93; simpa using hc93
  refine Rn [45,27,17,18,0,26,1,13] ?_
  exact aJ (m+1) ⟨by omega,by omega,by omega,fun j h1 h2=>by rcases Nat.lt_succ_iff_lt_or_eq.1 h2 with h | rfl; (· exact hcp j h1 h); exact hcap⟩ (by omega) Zu (fun _ h=>h)
 have hm1:¬(m < k+3∧m < s.size):=by omega
 have hall:jQ (aQ s k):=fun j hj=>by rw [nX hrg.2 hj]; exact hcp _ (by omega) (by omega)
 refine Rn [34,19,19,35,17,5,3,0,26,0,53,57,2,12] fun b99 hb99=>Aw (fun hc99=>?_) fun hc99=>?_
 ·have hor:(aQ s k).size < 3∨k+(aQ s k).size=s.size:=by omega
  have eT:cX s g k=((⟨#[]⟩,((s.size:Nat):Int),10),k+(aQ s k).size):=by unfold cX; rw [if_neg (fun h=>h hall),if_pos hor]
  rw [eT,if_pos (show (10:Int)≠0 by decide)] at hpe
  refine Rn [3,0,53,1,1,1,2,6,8,15,8,15] ?_
  have eP:aK s=([],((s.size:Nat):Int),10):=by rw [eR]; exact hpe
  refine dJ rfl rfl rfl rfl (fun w' hm=>⟨_,by rw [eP] <;> rfl,hm.b,by rw [eP]; exact aT⟩)
 have hor:¬((aQ s k).size < 3∨k+(aQ s k).size=s.size):=by omega
 have ht3:(aQ s k).size=3:=by omega
 have hk3:k+3 < s.size:=by omega
 refine Rn [23,0,0,0,26] ?_
 refine Xv (v:=Value.string (aQ s k)) rfl (by rw [yF (Nat.le_of_lt hk3)]; exact v_cut (i:=k) (j:=k+3) u9 rfl rfl rfl (Nat.le_add_right _ _) (Nat.le_of_lt hk3)) (Xv rfl (aH (places:=[(0,1),(1,1)]) jE eY Zk rfl rfl) ?_)
 refine Rn [28,32,2,5] fun p11=>?_
 refine ey _ ((Bk p11 [Value.string (aQ s k),.slice none 0 0] 134)::(aA 134 R++[(Bk p5 g.cells 184)])) _ ?_
 refine Rn [18,0,26,1,2,5,5] ?_
 refine bc 14 ?_
 refine Rn [0,0] ?_
 refine Xv rfl (bv u9 rfl rfl (hk3)) (Xv rfl (bp (j:=1) lJ lq rfl rfl Zo rfl) ?_)
 refine Rn [51,37,0,21,21] fun b115 hb115=>?_
 refine Xi rfl rfl rfl (fun hg0=>by subst hg0; (try simp only [Qy]); exact bv u9 rfl rfl (hk3)) (Xi rfl rfl rfl (fun hg0=>by subst hg0; (try simp only [Qy]); exact bp (j:=3) lJ lq rfl rfl Zo rfl) ?_)
 refine Rn [90,74,30,2,10] fun b122 hb122 b123 hb123=>Aw (fun hc123=>?_) fun hc123=>?_
 ·simp only [hb123,hb122,hb115,Qz,ne_eq] at hc123
  have hne:ad s (k+3)≠g.e∧ad s (k+3)≠g.n:=⟨fun h=>hc123.1 (s5.2 h),fun h=>hc123.2 (s5.2 h)⟩
  have eT:cX s g k=((⟨#[]⟩,((k+3:Nat):Int),40),k+3):=by unfold cX; rw [if_neg (fun h=>h hall),if_neg hor,ht3,if_pos hne]
  rw [eT,if_pos (show (40:Int)≠0 by decide)] at hpe
  refine Rn [3,0,1,1,1,2,6,8,15,8,15] ?_
  have eP:aK s=([],((k+3:Nat):Int),40):=by rw [eR]; exact hpe
  refine dJ rfl rfl rfl rfl (fun w' hm=>⟨_,by rw [eP] <;> rfl,hm.b,by rw [eP]; exact aT⟩)
 simp only [hb123,hb122,hb115,Qz,ne_eq] at hc123
 have hen:ad s (k+3)=g.e∨ad s (k+3)=g.n:=by rcases hc123 with h | h; (· exact .inl (s5.1 h)); exact .inr (s5.1 h)
 have eT:cX s g k=(((aQ s k),0,0),k+3):=by unfold cX; rw [if_neg (fun h=>h hall),if_neg hor,ht3,if_neg (fun h=>by rcases hen with h2 | h2; (· exact h.1 h2); exact h.2 h2)]
 rw [eT,if_neg (show ¬(0:Int)≠0 by decide)] at hpe
 dsimp only at hpe
 refine Rn [23,0,0,39] ?_
 refine Xd (R:=fun v wa wb=>∃ u n,v=.tuple #[u,Vi n,.bool (ja s g (ad s (k+3)) (k+3+1) []).isSome]∧∀ l z,ja s g (ad s (k+3)) (k+3+1) []=some (l,z)→n=(z:Nat)∧ab (aP aX) (fun b=>wa.heap.size≤b) wb u l) rfl Tryz.func135 rfl (fun w1 hw1=>(tV g s (k+3) w1 hs hrs hk3 hen).mono fun e w2 ⟨u,n,h1,h2,h3⟩=>⟨_,h1,h2,u,n,rfl,h3⟩) fun v129 wa wb hwa hwl hR=>?_
 obtain ⟨u,nz,rfl,hel⟩:=hR
 obtain ⟨q,hE⟩:∃ q,ja s g (ad s (k+3)) (k+3+1) []=q:=⟨_,rfl⟩
 rw [hE] at hpe hel ⊢
 refine Rn [0,20,20,48,1,1,1,2,5,3,0,43,2,12] fun b132 hb132 b134 hb134=>Aw (fun hc134=>?_) fun hc134=>?_
 ·have hq:q=none:=by cases q with | none=>rfl | some y=>simp at hc134
  subst hq
  refine Rn [3,0,53,1,1,1,2,6,8,15,8,15] ?_
  have eP:aK s=([],((s.size:Nat):Int),10):=by rw [eR]; exact hpe
  refine dJ rfl rfl rfl rfl (fun w' hm=>⟨_,by rw [eP] <;> rfl,hm.b,by rw [eP]; exact aT⟩)
 obtain ⟨l,z,rfl⟩:∃ l z2,q=some (l,z2):=by cases q with | none=>simp at hc134 | some y=>exact ⟨y.1,y.2,rfl⟩
 obtain ⟨rfl,hl⟩:=hel l z rfl
 obtain ⟨Au,cu,rfl,hu1,hu2,_⟩:=id hl
 have hadv:=rJ (by omega) hE
 obtain ⟨css,hcl,hrow,hrd⟩:=hT
 refine Rn [23,0,4] ?_
 refine aG (cs:=[Value.string (aQ s k),.slice none 0 0]) (off:=1) [] rfl rfl rfl rfl tK rfl (by show 2≤2; decide) ?_
 refine Rn [9,0] ?_
 refine Xv rfl (bS (e:=134) (fz:=(0,0)) (cs:=[Value.string (aQ s k),.slice Au l.length cu].toArray) jE rfl rfl (.head _) bQ) ?_
 refine ac (cs:=[Value.string (aQ s k),.slice Au l.length cu]) rfl rfl rfl jH bQ eY rfl rfl rfl ?_
 intro p141
 refine be (e:=134) [(Bk p141 [Value.string (aQ s k),.slice Au l.length cu] 134),(Bk p11 [Value.string (aQ s k),.slice Au l.length cu] 134)] (l2:=[(Bk p5 g.cells 184)]) R (len:=xs.length) (xs:=css.flatten) rfl rfl rfl rfl rfl hrow jH qA rfl rfl (m:=1) (news:=[Value.string (aQ s k),.slice Au l.length cu]) (fun i hi=>aa (vs:=[Value.string (aQ s k),.slice Au l.length cu]) (.head _) (by rw [Nat.zero_add]; exact List.getElem?_eq_getElem hi)) rfl Zx (by omega) fun R' hR'=>?_
 refine Rn [1,2,18,0,1,13,27] ?_
 refine qj (aA 134 R'++[(Bk p5 g.cells 184)]) (Ls.trans Ls) (fun w0 hm0=>?_)
 have hok:iD (aQ s k):=by unfold iD; omega
 have hT':=nV (T:=aZ) (D:=dC w (aA 134 R'++[(Bk p5 g.cells 184)])) (ws:=w0) (x:=⟨aQ s k,l⟩) rfl hcl (fun j h1 h2=>aZ.keep (hrd j h1 h2) (aV.frz hm0 (Ls.trans Ls) (by simp))) hR' (bk rfl hok (hl.keep (aV.made2 (hm0.less (Ls.trans Ls) (fun _ h=>h)) (.head _) (fun k hk p hp he=>by have:=hwa.lt hp; omega) hwa.b.size)))
 exact aJ (x:=(x,xs,R,ws)) (μ:=fun q:Nat×List Seg×ak×World=>s.size - q.1) (z,xs++[⟨aQ s k,l⟩],R',w0) ⟨hadv.2,by dsimp only; rw [hpe],by simp; omega,by simp; omega,hT'⟩ (by simp only; omega) (by dsimp only; rw [List.length_append,List.length_singleton]; repeat (first | exact je.nil | refine je.cons rfl ?_)) (fun w1 h=>h.less (List.Sublist.refl _) (fun q hq=>by simp at hq ⊢; rcases hq with h | h; (· exact .inl h); simp [h]))
open Go.RowKit Go.PK
theorem d6 {α:Type} {xs ys:List α} {k:Nat} (h1:k < xs.length) (h2:k < ys.length) (h:xs.take k=ys.take k) (he:xs[k]=ys[k]):xs.take (k+1)=ys.take (k+1):=by
 rw [List.take_succ_eq_append_getElem h1,List.take_succ_eq_append_getElem h2,h,he]
theorem iO {α:Type} {xs ys:List α} (h:xs.length=ys.length) (ht:xs.take xs.length=ys.take xs.length):xs=ys:=by
 rw [List.take_length] at ht; rw [ht,h,List.take_length]
theorem w8 {x y:Seg} (h1:x.tag=y.tag) (h2:x.els=y.els):x=y:=by cases x; cases y; cases h1; cases h2; rfl
theorem lL {α:Type} {xs ys:List α} {k:Nat} (h1:k < xs.length) (h2:k < ys.length) (he:xs[k]≠ys[k]):xs≠ys:=fun h=>by subst h; exact he rfl
theorem c_Same {u v:Value} {xs ys:List Seg} {D1 D2:Nat→Prop} (w:World) (h1s:ab aZ D1 w u xs) (h2s:ab aZ D2 w v ys) :
  Calls Tryz.prog 138 #[u,v] w fun e w'=>e=.returned (.bool (decide (xs=ys)))∧Later w w':=by
 obtain ⟨A1,c1,rfl,hl1,hm1,_⟩:=id h1s
 obtain ⟨A2,c2,rfl,hl2,hm2,_⟩:=id h2s
 refine enter Tryz.func138 rfl Tryz.ntmps138 rfl ?_
 refine Rn [3,1,2,5,3,0,31,0,31,37,2,12] fun b14 hb14=>Aw (fun hc14=>?_) fun hc14=>?_
 ·have hne:xs≠ys:=fun h=>by rw [h] at hc14; exact hc14 rfl
  refine Rn [3,1,2,6,8] ?_
  refine aw rfl rfl (fun w' hm=>⟨?_,hm.b⟩)
  rw [decide_eq_false (hne)]
 have hlen:xs.length=ys.length:=by omega
 refine Rn [16,5,3,1,2,14] ?_
 refine aO (σ:=Nat) (fun x=>x≤xs.length∧xs.take x=ys.take x) (fun x=>[(0,Value.slice A1 xs.length c1),(1,Value.slice A2 ys.length c2),(5,Vi (x:Nat))]) (fun x=>[]) (fun x=>[(w,fun _=>True)]) (fun x=>xs.length - x) (0) (⟨Nat.zero_le _,rfl⟩) (aC Zu (fun _ h=>h)) ?_
 rintro k ⟨hk,ht⟩
 refine Rn [144,5,3,0,0,31,24,2,10] fun b18 hb18=>Aw (fun hc18=>?_) fun hc18=>?_
 ·simp only [hb18,Qz,ne_eq] at hc18
  have h1:k < xs.length:=by omega
  have h2:k < ys.length:=by omega
  obtain ⟨b1,o1,u1,hA1,_,ht1,hv1,hk1,hr1⟩:=mq h1s h1
  obtain ⟨b2,o2,u2,hA2,_,ht2,hv2,hk2,hr2⟩:=mq h2s h2
  subst hA1 hA2
  obtain ⟨A3,c3,rfl,hl3,hm3,_⟩:=id hr1
  obtain ⟨A4,c4,rfl,hl4,hm4,_⟩:=id hr2
  refine Rn [16,5,14,5,5] ?_
  refine bc 26 ?_
  refine Rn [0,0,46,4] ?_
  refine Xl rfl u9 rfl (an (.head _) trivial ht1) ?_
  refine Rn [0,0,46,4] ?_
  refine Xl rfl u9 rfl (an (.head _) trivial ht2) ?_
  refine Rn [98,0,21,21,106,22] fun b31 hb31=>?_
  refine Xi rfl rfl rfl (fun hg0=>by subst hg0; (try simp only [Qy]); exact aW dd rfl rfl (an (.head _) trivial hv1)) ?_
  refine Rn [61,21,21,106,22] ?_
  refine Xi rfl rfl rfl (fun hg0=>by subst hg0; (try simp only [Qy]); exact aW dd rfl rfl (an (.head _) trivial hv2)) ?_
  refine Rn [61,74,25,2,10] fun b45 hb45 b46 hb46=>Aw (fun hc46=>?_) fun hc46=>?_
  ·simp only [hb46,hb45,hb31,Qz,ne_eq] at hc46
   have hne:xs≠ys:=lL h1 h2 (fun h=>by rcases hc46 with h3 | h3; (· exact h3 (by rw [h])); exact h3 (by rw [h]))
   refine Rn [3,1,2,6,8,15,8,8,15,8] ?_
   refine aw rfl rfl (fun w' hm=>⟨?_,hm.b⟩)
   rw [decide_eq_false (hne)]
  simp only [hb46,hb45,hb31,Qz,ne_eq] at hc46
  obtain ⟨htag,hlen2⟩:=hc46
  have hlen2:(xs[k]).els.length=(ys[k]).els.length:=by omega
  refine Rn [23,1,2,14] ?_
  refine aO (σ:=Nat) (fun x=>x≤(xs[k]).els.length∧(xs[k]).els.take x=(ys[k]).els.take x) (fun x=>[(0,Value.slice (some ⟨b1,o1,none⟩) xs.length c1),(1,Value.slice (some ⟨b2,o2,none⟩) ys.length c2),(5,Vi (k:Nat)),(6,Vi (x:Nat))]) (fun x=>[]) (fun x=>[(w,fun _=>True)]) (fun x=>(xs[k]).els.length - x) (0) (⟨Nat.zero_le _,rfl⟩) (aC Zu (fun _ h=>h)) ?_
  rintro j ⟨hj,htj⟩
  refine Rn [144,5,3,0,0,0,46,4] ?_
  refine Xl rfl dd rfl (an (.head _) trivial hv1) ?_
  refine Rn [31,24,2,12] fun b54 hb54=>Aw (fun hc54=>?_) fun hc54=>?_
  ·have h3:j < (xs[k]).els.length:=by omega
   have h4:j < (ys[k]).els.length:=by omega
   obtain ⟨b3,o3,u3,hA3,_,hc3,hr3⟩:=qy hr1 h3
   obtain ⟨b4,o4,u4,hA4,_,hc4,hr4⟩:=qy hr2 h4
   subst hA3 hA4
   obtain ⟨A5,c5,rfl,hl5,hm5,_⟩:=id hr3
   obtain ⟨A6,c6,rfl,hl6,hm6,_⟩:=id hr4
   obtain ⟨f1,hf1⟩:∃ f,(xs[k]).els[j]=f:=⟨_,rfl⟩
   obtain ⟨f2,hf2⟩:∃ f,(ys[k]).els[j]=f:=⟨_,rfl⟩
   rw [hf1] at hr3 hc3 hl5 hm5
   rw [hf2] at hr4 hc4 hl6 hm6
   refine Rn [16,5,14,3,0,0,46,4] ?_
   refine Xl rfl dd rfl (an (.head _) trivial hv1) ?_
   refine Rn [0,46] ?_
   refine Xl rfl ez rfl (an (.head _) trivial (by rw [Nat.mul_one]; exact hc3)) ?_
   refine Rn [1,9,0,0,46,4,51,0,46] ?_
   refine Xl rfl ez rfl (an (.head _) trivial (by rw [Nat.mul_one]; exact hc4)) ?_
   refine Rn [1,2,5,3,0,31,0,31,37,2,12] fun b77 hb77=>Aw (fun hc77=>?_) fun hc77=>?_
   ·have hne:xs≠ys:=lL h1 h2 (fun h=>absurd (show (xs[k]).els=(ys[k]).els by rw [h]) (lL h3 h4 (fun h5=>by rw [hf1,hf2] at h5; rw [h5] at hc77; exact hc77 rfl)))
    refine Rn [3,1,2,6,8,15,8,8,15,15,8,8,15,8] ?_
    refine aw rfl rfl (fun w' hm=>⟨?_,hm.b⟩)
    rw [decide_eq_false (hne)]
   have hlen3:f1.length=f2.length:=by omega
   refine Rn [23,1,2,14] ?_
   refine aO (σ:=Nat) (fun x=>x≤f1.length∧f1.take x=f2.take x) (fun x=>[(0,Value.slice (some ⟨b1,o1,none⟩) xs.length c1),(1,Value.slice (some ⟨b2,o2,none⟩) ys.length c2),(5,Vi (k:Nat)),(6,Vi (j:Nat)),(7,Value.slice A5 f1.length c5),(8,Value.slice A6 f2.length c6),(9,Vi (x:Nat))]) (fun x=>[]) (fun x=>[(w,fun _=>True)]) (fun x=>f1.length - x) (0) (⟨Nat.zero_le _,rfl⟩) (aC Zu (fun _ h=>h)) ?_
   rintro i ⟨hi,hti⟩
   refine Rn [144,5,3,0,0,31,24,2,12] fun b81 hb81=>Aw (fun hc81=>?_) fun hc81=>?_
   ·have h5:i < f1.length:=by omega
    have h6:i < f2.length:=by omega
    obtain ⟨b5,o5,hA5,_,hc5,_⟩:=od hr3 h5
    obtain ⟨b6,o6,hA6,_,hc6,_⟩:=od hr4 h6
    subst hA5 hA6
    refine Rn [16,5,14,5] ?_
    refine bc 9 ?_
    refine Rn [0,0,46] ?_
    refine Xl rfl u9 rfl (an (.head _) trivial (by rw [Nat.mul_one]; exact hc5)) ?_
    refine Rn [0,0,46] ?_
    refine Xl rfl u9 rfl (an (.head _) trivial (by rw [Nat.mul_one]; exact hc6)) ?_
    refine Rn [98,2,12] fun b92 hb92=>Aw (fun hc92=>?_) fun hc92=>?_
    ·have hne:xs≠ys:=lL h1 h2 (fun h=>absurd (show (xs[k]).els=(ys[k]).els by rw [h]) (lL h3 h4 (fun h7=>by rw [hf1,hf2] at h7; exact (lL h5 h6 hc92) h7)))
     refine Rn [3,1,2,6,15,8,8,15,15,8,8,15,15,8,8,15,8] ?_
     refine aw rfl rfl (fun w' hm=>⟨?_,hm.b⟩)
     rw [decide_eq_false (hne)]
    refine Rn [45,27,17,18,0,26,1,13] ?_
    exact aJ (i+1) ⟨by omega,d6 h5 h6 hti hc92⟩ (by omega) Zu (fun _ h=>h)
   obtain rfl:i=f1.length:=by omega
   have hff:f1=f2:=iO hlen3 hti
   refine Rn [34,19,19,35,27,17,18,0,26,1,13] ?_
   exact aJ (j+1) ⟨by omega,d6 h3 h4 htj (by rw [hf1,hf2,hff])⟩ (by omega) Zu (fun _ h=>h)
  obtain rfl:j=(xs[k]).els.length:=by omega
  have hee:(xs[k]).els=(ys[k]).els:=iO hlen2 htj
  refine Rn [34,19,19,35,27,17,18,0,26,1,13] ?_
  exact aJ (k+1) ⟨by omega,d6 h1 h2 ht (w8 htag hee)⟩ (by omega) Zu (fun _ h=>h)
 simp only [hb18,decide_eq_false_iff_not] at hc18
 obtain rfl:k=xs.length:=by omega
 refine Rn [34,19,19,35,17,3,1,2,6] ?_
 refine aw rfl rfl (fun w' hm=>⟨?_,hm.b⟩)
 rw [decide_eq_true (iO hlen ht)]
open Go.RowKit Go.PK
theorem c_WS {l2:List (Nat×Obj)} {ro:List av} {p:Nat} {pp:Value} {r:ak} {bs:List UInt8} (w:World) (hm:Mem w ((em 173 5 p pp r (bs.length))++l2) ro) (hp:yx p pp) (t:ByteArray) (hr:ag 1 r bs.length (ea bs)) (hl:bs.length≤4000000000000) (ht:t.size≤4000000000000) :
  Calls Tryz.prog 119 #[Pt p,.string t] w fun e w'=>e=.returned (.tuple #[Vi (t.size:Nat),.nilIface])∧∃ r',ag 1 r' (bs++bl t).length (ea (bs++bl t))∧Mem w' ((em 173 5 p (Pt p) r' ((bs++bl t).length))++l2) ro:=by
 refine ay hm Tryz.func119 rfl Tryz.ntmps119 rfl ?_
 refine Rn [3,1,1,9,0] ?_
 refine aI (τ:=Unit) (v:=.tuple #[]) (fun _=>True) (fun _=>(em 173 5 p (Pt p) r (bs.length))++l2) rfl rfl Tryz.func166 Zk rfl (fun w1 hw1=>by have hc:=c_cc w1 hw1 hp; exact hc.mono fun e w2 h=>⟨h.1,(),trivial,h.2⟩) fun _ _=>?_
 refine Rn [9,0,0,11,4,7,0] ?_
 refine rW (e:=5) [(p,_)] (l2:=l2) r (len:=bs.length) (xs:=ea bs) rfl rfl rfl rfl rfl hr jU u9 ap5 Zx (by omega) fun r' hr'=>?_
 refine Rn [11,4] ?_
 refine aG [] rfl rfl rfl rfl yy rfl (by show 2≤2; decide) ?_
 refine Rn [9,0,53,1,1,2,6] ?_
 refine s7 rfl rfl rfl (fun w' hm'=>⟨rfl,r',?_,?_⟩)
 ·rw [jj,List.length_append,a8]; exact hr'
 rw [List.length_append,a8]; exact hm'
open Go.RowKit Go.PK
open Go.RowKit Go.PK
theorem c_esc (t:ByteArray) (w:World) (hT:(eE (bl t)).length≤2000000000000) (ht:t.size≤4000000000000) :
  Calls Tryz.prog 70 #[.string t] w fun e w'=>e=.returned (.string ⟨(eE (bl t)).toArray⟩)∧Later w w':=by
 refine enter Tryz.func70 rfl Tryz.ntmps70 rfl ?_
 refine Rn [3,1,9,1,2,5,3,1,2,14] ?_
 refine aO (σ:=Nat×List UInt8×ak) (fun x=>x.1≤t.size∧x.2.1++eE ((bl t).drop x.1)=eE (bl t)∧ag 1 x.2.2 x.2.1.length (ea x.2.1)) (fun x=>[(0,Value.string t),(3,au x.2.2 x.2.1.length),(4,Vi (x.1:Nat))]) (fun x=>aA 5 x.2.2) (fun x=>[(w,fun _=>True)]) (fun x=>t.size - x.1) ((0,[],none)) (⟨Nat.zero_le _,rfl,bG⟩) (aC Zu (fun _ h=>h)) ?_
 rintro ⟨k,bs,r⟩ ⟨hk,hB,hr⟩
 refine Rn [144] ?_
 dsimp only at hk hB hr
 have hlen:=len_le hB hT
 refine Rn [5,3,0,0,53,24,2,10] fun b9 hb9=>Aw (fun hc9=>?_) fun hc9=>?_
 ·simp only [hb9,Qz,ne_eq] at hc9
  have hkl:k < t.size:=by omega
  rw [esc_drop hkl] at hB
  refine Rn [16,5,14,3,0,0] ?_
  refine Xv rfl (bv u9 rfl rfl (hkl)) (Xh rfl Tryz.func127 rfl (fun w1 hw1=>c_rsign _ w1) fun b15 hb15=>?_)
  refine Rn [1,2,5,3,0,2,10] (Aw (fun hc16=>?_) fun hc16=>?_)
  ·have hsg:mX (ad t k)=true:=by rw [← hb15]; exact hc16
   unfold pY at hB
   rw [if_pos hsg] at hB
   refine Zr (Xm ?_)
   refine ac rfl rfl rfl jU lq vk rfl rfl rfl ?_
   intro p18
   refine be (e:=5) [(p18,_)] (l2:=[]) r (len:=bs.length) (xs:=ea bs) rfl rfl rfl rfl (by simp only [List.append_nil]; rfl) hr jU ap5 rfl rfl (m:=1) (news:=ea [63]) (fun i hi=>aa (vs:=ea [63]) (.head _) (by rw [Nat.zero_add]; exact List.getElem?_eq_getElem hi)) rfl Zx (by omega) fun r1 hr1=>?_
   rw [List.append_nil]
   refine Rn [1,2,18,0,0,0] ?_
   refine Xv rfl (bv u9 rfl rfl (hkl)) ?_
   refine ac rfl rfl rfl jU lq vk rfl rfl rfl ?_
   intro p24
   refine be (e:=5) [(p24,_),(Bk p18 (ea [63]) 5)] (l2:=[]) r1 (len:=bs.length+1) (xs:=ea bs++ea [63]) rfl rfl rfl rfl (by simp only [List.append_nil]; rfl) hr1 jU ap5 rfl rfl (m:=1) (news:=ea [ad t k]) (fun i hi=>aa (vs:=ea [ad t k]) (.head _) (by rw [Nat.zero_add]; exact List.getElem?_eq_getElem hi)) rfl Zx (by omega) fun r2 hr2=>?_
   rw [List.append_nil]
   refine Rn [1,13,27,17,18,0,26,1,13] ?_
   have hl3:((bs++[63])++[ad t k]:List UInt8).length=bs.length+1+1:=by simp
   have hr3:ag 1 r2 ((bs++[63])++[ad t k]).length (ea ((bs++[63])++[ad t k])):=by rw [jj,jj,List.length_append,List.length_append]; exact hr2
   exact aJ (k+1,(bs++[63])++[ad t k],r2) ⟨by dsimp only; omega,by dsimp only; rw [← hB]; simp only [List.append_assoc,List.cons_append,List.nil_append],hr3⟩ (by simp only; omega) (by dsimp only; rw [hl3]; repeat (first | exact je.nil | refine je.cons rfl ?_)) (fun w1 h=>h.less (Ls.trans Ls) (fun _ h=>h))
  have hsg:¬mX (ad t k)=true:=by rw [← hb15,hc16]; exact Bool.false_ne_true
  unfold pY at hB
  rw [if_neg hsg] at hB
  refine Rn [16,18,0,0,0] ?_
  refine Xv rfl (bv u9 rfl rfl (hkl)) ?_
  refine ac rfl rfl rfl jU lq vk rfl rfl rfl ?_
  intro p24
  refine be (e:=5) [(p24,_)] (l2:=[]) r (len:=bs.length) (xs:=ea bs) rfl rfl rfl rfl (by simp only [List.append_nil]; rfl) hr jU ap5 rfl rfl (m:=1) (news:=ea [ad t k]) (fun i hi=>aa (vs:=ea [ad t k]) (.head _) (by rw [Nat.zero_add]; exact List.getElem?_eq_getElem hi)) rfl Zx (by omega) fun r2 hr2=>?_
  rw [List.append_nil]
  refine Rn [1,13,27,17,18,0,26,1,13] ?_
  exact aJ (k+1,bs++[ad t k],r2) ⟨by dsimp only; omega,by dsimp only; rw [← hB]; simp only [List.append_assoc,List.cons_append,List.nil_append],by dsimp only; rw [jj,List.length_append]; exact hr2⟩ (by simp only; omega) (by dsimp only; rw [List.length_append]; repeat (first | exact je.nil | refine je.cons rfl ?_)) (fun w1 h=>h.less Ls (fun _ h=>h))
 simp only [hb9,decide_eq_false_iff_not] at hc9
 have hdr:(bl t).drop k=[]:=List.drop_eq_nil_of_le (by rw [a8]; omega)
 rw [hdr] at hB
 have hbs:bs=eE (bl t):=by rw [← hB]; exact (List.append_nil _).symm
 refine Rn [34,19,19,35,17,3,0] ?_
 refine Xv rfl (tX (E:=5) bs jU u5 u9 rfl hr rfl (fun q hq=>hq)) ?_
 refine Rn [1,2,6] ?_
 refine aw rfl rfl (fun w' hm=>⟨?_,hm.b⟩)
 rw [hbs]
open Go.RowKit Go.PK
theorem jV {v:Value} {l:List Seg} {D:Nat→Prop} (w:World) (hl:ab aZ D w v l) (hT:(fX l).length≤2000000000000) :
  Calls Tryz.prog 25 #[v] w fun e w'=>e=.returned (.tuple #[.string (u6 l).1,Vi (u6 l).2])∧Later w w':=by
 obtain ⟨A,cp,rfl,hlc,hmx,_⟩:=id hl
 refine enter Tryz.func25 rfl Tryz.ntmps25 rfl ?_
 refine Rn [3,1,1,2,5,3,0,31,60,2,10] fun b15 hb15=>Aw (fun hc15=>?_) fun hc15=>?_
 ·simp only [hb15,Qz,ne_eq] at hc15
  have hmany:l.length > 10000:=by omega
  refine Rn [3,1,1,2,6,8] ?_
  refine s7 rfl rfl rfl (fun w' hm'=>⟨?_,hm'.b⟩)
  rw [wrR_many hmany]
 simp only [hb15,decide_eq_false_iff_not] at hc15
 have hmany:¬l.length > 10000:=by omega
 refine Rn [23,1,2,5,3,1,2,14] ?_
 refine aO (σ:=Nat×List UInt8) (fun x=>x.1≤l.length∧x.2++fX (l.drop x.1)=fX l∧∀ j (h:j < l.length),j < x.1→jA j l[j]) (fun x=>[(0,Value.slice A l.length cp),(4,Value.string ⟨(x.2).toArray⟩),(5,Vi (x.1:Nat))]) (fun x=>[]) (fun x=>[(w,fun _=>True)]) (fun x=>l.length - x.1) ((0,[])) (⟨Nat.zero_le _,rfl,fun j h hj=>by omega⟩) (aC Zu (fun _ h=>h)) ?_
 rintro ⟨k,bs⟩ ⟨hk,hB,hgood⟩
 refine Rn [144] ?_
 dsimp only at hk hB hgood
 have hlen:=len_le hB hT
 refine Rn [5,3,0,0,31,24,2,10] fun b19 hb19=>Aw (fun hc19=>?_) fun hc19=>?_
 ·simp only [hb19,Qz,ne_eq] at hc19
  have hkl:k < l.length:=by omega
  obtain ⟨b1,o1,u1,hA1,_,ht1,hv1,hk1,hr1⟩:=mq hl hkl
  obtain ⟨A7,c7,rfl,hl7,hm7,_⟩:=id hr1
  refine Rn [16,5,14,3,0,0] ?_
  refine Xv rfl (ae jH bQ (congrArg (fun A=>some (Value.slice A l.length cp)) hA1) rfl Zo rfl) ?_
  refine Rn [4] ?_
  refine Xl rfl u9 rfl (an (.head _) trivial ht1) ?_
  refine Rn [1,2,5,3,0,53,37,0,21,73,21,71] fun b29 hb29 b32 hb32=>?_
  refine fp [(b29,false)] rfl rfl rfl rfl rfl (fun hg=>by obtain ⟨hg0,hg1,_⟩:=hg; subst hg0; subst hg1; (try simp only [Qy]); exact rx rfl rfl) fun b35 hb35=>?_
  refine Rn [81,25,2,10] fun b36 hb36 b37 hb37=>Aw (fun hc37=>?_) fun hc37=>?_
  ·simp only [hb37,hb36,hb35,hb32,hb29,Qz,ne_eq] at hc37
   have hbad:¬jA k l[k]:=fun ⟨h1,h2⟩=>by rcases hc37 with h | h; (· exact h (by have:=tY h1; omega)); exact h2 ⟨by omega,h.2⟩
   refine Rn [3,1,1,2,6,8,15,8,8,15,8] ?_
   refine s7 rfl rfl rfl (fun w' hm'=>⟨?_,hm'.b⟩)
   rw [rX hmany hkl hbad]
  simp only [hb37,hb36,hb35,hb32,hb29,Qz,ne_eq] at hc37
  have ht3:l[k].tag.size=3:=by omega
  have hnu:¬(k=0∧l[k].tag=lM):=fun h=>by rcases hc37.2 with h2 | h2; (· exact h2 (by omega)); exact h2 h.2
  refine Rn [23,0] ?_
  refine Xv rfl (bv (j:=0) u9 rfl rfl (by omega)) (Xh rfl Tryz.func69 rfl (fun w1 hw1=>jq _ w1) fun b40 hb40=>?_)
  refine Rn [1,9,0] ?_
  refine Xv rfl (bv (j:=1) u9 rfl rfl (by omega)) (Xh rfl Tryz.func69 rfl (fun w1 hw1=>jq _ w1) fun b43 hb43=>?_)
  refine Rn [1,9,0] ?_
  refine Xv rfl (bv (j:=2) u9 rfl rfl (by omega)) (Xh rfl Tryz.func69 rfl (fun w1 hw1=>jq _ w1) fun b46 hb46=>?_)
  refine Rn [1,2,5,3,0,43,0,21,64,25,0,21,64] fun b48 hb48 b51 hb51 b52 hb52 b55 hb55=>?_
  refine Rn [25,2,10] fun b56 hb56=>Aw (fun hc56=>?_) fun hc56=>?_
  ·have hbad:¬jA k l[k]:=fun ⟨h1,h2⟩=>by
    unfold cr at h1
    rw [xa ht3] at h1
    rw [hb56,hb55,hb52,hb51,hb48,hb46,hb43,hb40] at hc56
    revert h1 hc56
    cases eD (ad l[k].tag 0) <;> cases eD (ad l[k].tag 1) <;> cases eD (ad l[k].tag 2) <;> simp
   refine Rn [3,1,1,2,6,8,15,8,8,15,8] ?_
   refine s7 rfl rfl rfl (fun w' hm'=>⟨?_,hm'.b⟩)
   rw [rX hmany hkl hbad]
  have hcap:(bl l[k].tag).any (fun c=>!eD c)=false:=by
   rw [xa ht3]
   rw [hb56,hb55,hb52,hb51,hb48,hb46,hb43,hb40] at hc56
   revert hc56
   cases eD (ad l[k].tag 0) <;> cases eD (ad l[k].tag 1) <;> cases eD (ad l[k].tag 2) <;> simp
  refine Rn [23,0,0] ?_
  refine Xv (v:=.string ⟨(bs++bl l[k].tag).toArray⟩) rfl (by rw [← w9]; exact cK rfl rfl (by rw [cU]; omega)) ?_
  refine Rn [1,2,5,3,1,2,14] ?_
  refine aO (σ:=Nat×List UInt8) (fun x=>x.1≤l[k].els.length∧x.2++((l[k].els.drop x.1).flatMap (mt 43)++([39]++fX (l.drop (k+1))))=fX l∧∀ i (h:i < l[k].els.length),i < x.1→(l[k].els[i]).isEmpty=false) (fun x=>[(0,Value.slice A l.length cp),(4,Value.string ⟨(x.2).toArray⟩),(5,Vi (k:Nat)),(10,Vi (x.1:Nat))]) (fun x=>[]) (fun x=>[(w,fun _=>True)]) (fun x=>l[k].els.length - x.1) ((0,bs++bl l[k].tag)) (⟨Nat.zero_le _,by dsimp only; rw [List.drop_zero,List.append_assoc,← wrT_drop hkl]; exact hB,fun i h hi=>by omega⟩) (aC Zu (fun _ h=>h)) ?_
  rintro ⟨j,bs⟩ ⟨hj,hB,hne⟩
  refine Rn [144] ?_
  dsimp only at hj hB hne
  have hlen:=len_le hB hT
  refine Rn [5,3,0,0,0] ?_
  refine Xv rfl (ae jH bQ (congrArg (fun A=>some (Value.slice A l.length cp)) hA1) rfl Zo rfl) ?_
  refine Rn [4] ?_
  refine Xl rfl dd rfl (an (.head _) trivial hv1) ?_
  refine Rn [31,24,2,10] fun b67 hb67=>Aw (fun hc67=>?_) fun hc67=>?_
  ·simp only [hb67,Qz,ne_eq] at hc67
   have hjl:j < l[k].els.length:=by omega
   obtain ⟨b2,o2,u2,hA2,_,hc2,hr2⟩:=qy hr1 hjl
   obtain ⟨A8,c8,rfl,hl8,hm8,_⟩:=id hr2
   obtain ⟨ee,hee⟩:∃ ee,l[k].els[j]=ee:=⟨_,rfl⟩
   rw [hee] at hr2 hc2 hl8 hm8
   refine Rn [16,5,14,3,0,0] ?_
   refine Xv rfl (ae jH bQ (congrArg (fun A=>some (Value.slice A l.length cp)) hA1) rfl Zo rfl) ?_
   refine Rn [4] ?_
   refine Xl rfl dd rfl (an (.head _) trivial hv1) (Xm ?_)
   refine Xv rfl (ae dd fw (congrArg (fun A=>some (Value.slice A l[k].els.length c7)) hA2) rfl Zo rfl) (Xl rfl ez rfl (an (.head _) trivial (by rw [Nat.mul_one]; exact hc2)) ?_)
   refine Rn [1,2,5,3,0,31,38,2,12] fun b80 hb80=>Aw (fun hc80=>?_) fun hc80=>?_
   ·have hbad:¬jA k l[k]:=fun ⟨h1,h2⟩=>by
     unfold cr at h1
     have h3:l[k].els.any List.isEmpty=true:=List.any_eq_true.2 ⟨_,List.getElem_mem hjl,by rw [hee]; exact List.isEmpty_iff.2 (List.eq_nil_of_length_eq_zero (by omega))⟩
     rw [h3] at h1; simp at h1
    refine Rn [3,1,1,2,6,8,15,8,8,15,8,15,8,8,15,8] ?_
    refine s7 rfl rfl rfl (fun w' hm'=>⟨?_,hm'.b⟩)
    rw [rX hmany hkl hbad]
   have hem:(l[k].els[j]).isEmpty=false:=by rw [hee]; cases ee with | nil=>exact absurd rfl hc80 | cons=>rfl
   refine Rn [23,1,2,14] ?_
   refine aO (σ:=Nat×List UInt8) (fun x=>x.1≤ee.length∧x.2++(mt (sepB x.1) (ee.drop x.1)++((l[k].els.drop (j+1)).flatMap (mt 43)++([39]++fX (l.drop (k+1)))))=fX l) (fun x=>[(0,Value.slice A l.length cp),(4,Value.string ⟨(x.2).toArray⟩),(5,Vi (k:Nat)),(10,Vi (j:Nat)),(11,Value.slice A8 ee.length c8),(12,Vi (x.1:Nat))]) (fun x=>[]) (fun x=>[(w,fun _=>True)]) (fun x=>ee.length - x.1) ((0,bs)) (⟨Nat.zero_le _,by dsimp only; rw [List.drop_zero,← hB,els_drop hjl,hee]; simp only [List.append_assoc]; rfl⟩) (aC Zu (fun _ h=>h)) ?_
   rintro ⟨i,bs⟩ ⟨hi,hB⟩
   refine Rn [144] ?_
   dsimp only at hi hB
   have hlen:=len_le hB hT
   refine Rn [5,3,0,0,31,24,2,10] fun b84 hb84=>Aw (fun hc84=>?_) fun hc84=>?_
   ·simp only [hb84,Qz,ne_eq] at hc84
    have hil:i < ee.length:=by omega
    obtain ⟨b3,o3,hA3,_,hc3,hok3⟩:=od hr2 hil
    unfold iD at hok3
    rw [elT_drop hil] at hB
    have hesc:(eE (bl ee[i])).length≤2000000000000:=by have:=congrArg List.length hB; simp at this; omega
    have hts:ee[i].size≤2000000000000:=by have:=xd (bl ee[i]); rw [a8] at this; omega
    refine Rn [16,5,14,5,3,0,38,2,12] fun b88 hb88=>Aw (fun hc88=>?_) fun hc88=>?_
    ·obtain rfl:i=0:=by omega
     refine Zr (Xm ?_)
     refine Xv (v:=.string ⟨(bs++([43]:List UInt8)).toArray⟩) rfl (by rw [← iQ (bs) (([43]:List UInt8))]; exact cK (s:=⟨(bs).toArray⟩) (u:=⟨(([43]:List UInt8)).toArray⟩) rfl rfl (by rw [cU,cU]; simp only [List.length_append,List.length_cons,List.length_nil]; omega)) ?_
     refine Rn [1,2,18,0,0,0] ?_
     refine Xv rfl (ae ez gG (congrArg (fun A=>some (Value.slice A ee.length c8)) hA3) rfl Zo rfl) (Xl rfl u9 rfl (an (.head _) trivial (by rw [Nat.mul_one]; exact hc3)) (Xc rfl Tryz.func70 rfl (fun w1 hw1=>c_esc _ w1 hesc (by omega)) ?_))
     refine Xv (v:=.string ⟨((bs++([43]:List UInt8))++eE (bl ee[0])).toArray⟩) rfl (by rw [← iQ ((bs++([43]:List UInt8))) (eE (bl ee[0]))]; exact cK (s:=⟨((bs++([43]:List UInt8))).toArray⟩) (u:=⟨(eE (bl ee[0])).toArray⟩) rfl rfl (by rw [cU,cU]; simp only [List.length_append,List.length_cons,List.length_nil]; omega)) ?_
     refine Rn [1,13,27,17,18,0,26,1,13] ?_
     exact aJ (1,(bs++([43]:List UInt8))++eE (bl ee[0])) (⟨by dsimp only; omega,by dsimp only; rw [← hB]; simp only [List.append_assoc,List.cons_append,List.nil_append]; rfl⟩) (by simp only; omega) Zu (fun _ h=>h)
    have hsp:sepB i=58:=if_neg (by omega)
    refine Zr (Xm ?_)
    refine Xv (v:=.string ⟨(bs++([58]:List UInt8)).toArray⟩) rfl (by rw [← iQ (bs) (([58]:List UInt8))]; exact cK (s:=⟨(bs).toArray⟩) (u:=⟨(([58]:List UInt8)).toArray⟩) rfl rfl (by rw [cU,cU]; simp only [List.length_append,List.length_cons,List.length_nil]; omega)) ?_
    refine Rn [1,2,18,0,0,0] ?_
    refine Xv rfl (ae ez gG (congrArg (fun A=>some (Value.slice A ee.length c8)) hA3) rfl Zo rfl) (Xl rfl u9 rfl (an (.head _) trivial (by rw [Nat.mul_one]; exact hc3)) (Xc rfl Tryz.func70 rfl (fun w1 hw1=>c_esc _ w1 hesc (by omega)) ?_))
    refine Xv (v:=.string ⟨((bs++([58]:List UInt8))++eE (bl ee[i])).toArray⟩) rfl (by rw [← iQ ((bs++([58]:List UInt8))) (eE (bl ee[i]))]; exact cK (s:=⟨((bs++([58]:List UInt8))).toArray⟩) (u:=⟨(eE (bl ee[i])).toArray⟩) rfl rfl (by rw [cU,cU]; simp only [List.length_append,List.length_cons,List.length_nil]; omega)) ?_
    refine Rn [1,13,27,17,18,0,26,1,13] ?_
    exact aJ (i+1,(bs++([58]:List UInt8))++eE (bl ee[i])) (⟨by dsimp only; omega,by dsimp only; rw [← hB,hsp]; simp only [List.append_assoc,List.cons_append,List.nil_append]; rfl⟩) (by simp only; omega) Zu (fun _ h=>h)
   simp only [hb84,decide_eq_false_iff_not] at hc84
   rw [og (k:=i) (by omega)] at hB
   refine Rn [34,19,19,35,27,17,18,0,26,1,13] ?_
   exact aJ (j+1,bs) (⟨by dsimp only; omega,hB,fun i h hi=>by rcases Nat.lt_succ_iff_lt_or_eq.1 hi with h2 | rfl; (· exact hne i h h2); exact hem⟩) (by simp only; omega) Zu (fun _ h=>h)
  simp only [hb67,decide_eq_false_iff_not] at hc67
  rw [og (k:=j) (by omega)] at hB
  have hgk:jA k l[k]:=⟨by unfold cr; rw [hcap,decide_eq_true ht3,show l[k].els.any List.isEmpty=false from List.any_eq_false.2 fun e he=>by obtain ⟨i,hi,rfl⟩:=List.mem_iff_getElem.1 he; rw [hne i hi (by omega)]; exact Bool.false_ne_true]; rfl,hnu⟩
  refine Rn [34,19,19,35,17,18,0] ?_
  refine Xv (v:=.string ⟨(bs++([39]:List UInt8)).toArray⟩) rfl (by rw [← iQ (bs) (([39]:List UInt8))]; exact cK (s:=⟨(bs).toArray⟩) (u:=⟨(([39]:List UInt8)).toArray⟩) rfl rfl (by rw [cU,cU]; simp only [List.length_append,List.length_cons,List.length_nil]; omega)) ?_
  refine Rn [1,13,27,17,18,0,26,1,13] ?_
  exact aJ (k+1,bs++([39]:List UInt8)) (⟨by dsimp only; omega,by dsimp only; rw [← hB]; simp only [List.flatMap_nil,List.append_assoc,List.nil_append],fun j h hj=>by rcases Nat.lt_succ_iff_lt_or_eq.1 hj with h2 | rfl; (· exact hgood j h h2); exact hgk⟩) (by simp only; omega) Zu (fun _ h=>h)
 simp only [hb19,decide_eq_false_iff_not] at hc19
 rw [og (k:=k) (by omega)] at hB
 have hbs:bs=fX l:=by rw [← hB]; exact (List.append_nil _).symm
 subst hbs
 refine Rn [34,19,19,35,17,3,0,1,1,2,6] ?_
 refine s7 rfl rfl rfl (fun w' hm'=>⟨?_,hm'.b⟩)
 rw [wrR_ok hmany (fun j h=>hgood j h (by omega))]
open Go.RowKit Go.PK
structure LD (w:World):Prop where
  tab:Lib.TabIs Tryz.prog w "internal/strconv.uint64pow10" .u64 Lib.pow10Tab
  cel:∃ m,w.cell? ⟨2,0,none⟩=some (Vi m)
  syn:∃ tp p,w.var? Tryz.prog "strconv.ErrSyntax"=some #[.iface tp p]
  rng:∃ tp p,w.var? Tryz.prog "strconv.ErrRange"=some #[.iface tp p]
theorem LD.later {w w':World} (h:LD w) (hl:Later w w'):LD w':=by
 obtain ⟨h1,⟨m,h2⟩,⟨t1,p1,h3⟩,⟨t2,p2,h4⟩⟩:=h
 exact ⟨Joins.tab_stays (g:=Tryz.prog.globalNamed "internal/strconv.uint64pow10" |>.getD 0) Zk h1 hl (Nat.le_refl _),⟨m,by rw [gp (hl.block 2 (eu (p:=⟨2,0,none⟩) h2))]; exact h2⟩,⟨t1,p1,Joins.var_stays (g:=Tryz.prog.globalNamed "strconv.ErrSyntax" |>.getD 0) Zk h3 hl (Nat.le_refl _)⟩,⟨t2,p2,Joins.var_stays (g:=Tryz.prog.globalNamed "strconv.ErrRange" |>.getD 0) Zk h4 hl (Nat.le_refl _)⟩⟩
theorem c_Itoa (n:Int) (w:World) (hn:aj n) (hL:LD w) :
  Calls Tryz.prog 165 #[Vi n] w fun e w'=>e=.returned (.string (ai n))∧Later w w' :=
 (Tryz.strconv_Itoa n hn.1 hn.2 w hL.tab).mono fun e w' ⟨h1,k,os,h2⟩=>⟨h1,by rw [h2]; exact vu w k os⟩
theorem c_Split (s:ByteArray) (w:World) (hs:s.size≤2000000000) (hL:LD w) :
  Calls Tryz.prog 173 #[.string s,.string jB] w fun e w'=>∃ v,e=.returned v∧Later w w'∧ab aX (fun b=>w.heap.size≤b) w' v (aN s):=by
 obtain ⟨m,hm⟩:=hL.cel
 refine (Tryz.strings_Split s jB m w (by omega) hm (by decide)).mono fun e w' ⟨h1,h2⟩=>⟨_,h1,?_,?_⟩
 ·rw [h2]; exact tZ w _
 have h2:w'=w.alloc (.cells ((aN s).map Value.string).toArray 9):=h2
 subst h2
 have hl:=vv s
 rw [← hl]
 have hg:(w.alloc (.cells ((aN s).map Value.string).toArray 9)).heap[w.heap.size]?=some (.cells ((aN s).map Value.string).toArray 9 (0,0)):=alloc_at w _
 have hcn:(aN s).length≤9223372036854775807:=by rw [hl]; have:=Lib.countB_le jB (by decide) s.size s (Nat.le_refl _); omega
 refine ⟨_,_,rfl,Nat.le_refl _,hcn,fun h=>⟨w.heap.size,0,rfl,Nat.le_refl _,dS hg,fun j hj=>⟨_,fun i hi=>?_,rfl,yG (by unfold iD; omega) _ (List.getElem_mem hj)⟩⟩⟩
 have hi:i=0:=by simpa using hi
 subst hi
 rw [Nat.zero_add,Nat.add_zero,show aX.size=1 from rfl,Nat.mul_one,cell_of_row _ w.heap.size _ _ 9 (0,0) hg,List.getElem?_toArray]
 simp [hj]
open Go.RowKit Go.PK
theorem de (n:Int) (w:World) (hn:aj n) (hL:LD w) :
  Calls Tryz.prog 115 #[Vi n] w fun e w'=>e=.returned (.string (ai n))∧Later w w':=by
 refine enter Tryz.func115 rfl Tryz.ntmps115 rfl ?_
 refine Rn [3,1,9,0] ?_
 refine Xc rfl Tryz.func165 rfl (fun w1 hw1=>c_Itoa n w1 hn (hL.later hw1.b)) ?_
 refine Rn [1,2,6] ?_
 refine aw rfl rfl (fun w' hm=>⟨?_,hm.b⟩)
 rfl
theorem qE (s n:Int) (w:World) (hs:aj s) (hn:aj n) (hL:LD w) :
  Calls Tryz.prog 153 #[.agg #[Vi s,Vi n]] w fun e w'=>e=.returned (.string (kB s n))∧Later w w':=by
 have z1:=br hs
 have z2:=br hn
 refine enter Tryz.func153 rfl Tryz.ntmps153 rfl ?_
 refine Rn [3,36,1,2,5] fun p1=>?_
 refine bc 10 ?_
 refine Rn [4,7] ?_
 refine Xc rfl Tryz.func115 rfl (fun w1 hw1=>de s w1 hs (hL.later hw1.b)) ?_
 refine Xv rfl (cK rfl rfl (by show (ai s).size+1≤_; omega)) ?_
 refine Rn [4,7] ?_
 refine Xc rfl Tryz.func115 rfl (fun w1 hw1=>de n w1 hn (hL.later hw1.b)) ?_
 refine Xv rfl (cK rfl rfl (by rw [ByteArray.size_append]; show (ai s).size+1+(ai n).size≤_; omega)) (Xv rfl (cK rfl rfl (by rw [ByteArray.size_append,ByteArray.size_append]; show (ai s).size+1+(ai n).size+4≤_; omega)) ?_)
 refine Rn [1,2,6] ?_
 refine aw rfl rfl (fun w' hm=>⟨?_,hm.b⟩)
 rfl
theorem c_wi1 (n a b:Int) (p q:Nat) (w:World) (hp:w.cell? ⟨p,0,none⟩=some (Vi a)) (hq:w.cell? ⟨q,0,none⟩=some (Vi b)) :
  Calls Tryz.prog 184 #[Vi n,Pt p,Pt q] w fun e w'=>e=.returned (.bool (decide (n < a) || decide (n > b)))∧Later w w':=by
 refine enter Tryz.func184 rfl Tryz.ntmps184 rfl ?_
 refine Rn [3,1,9,0] ?_
 refine Xl rfl u3 rfl (an (.head _) trivial hp) ?_
 refine Rn [24,0,21] fun b7 hb7=>?_
 refine Xi rfl rfl rfl (fun hg0=>by subst hg0; (try simp only [Qy]); exact aW u3 rfl rfl (an (.head _) trivial hq)) ?_
 refine Rn [63,25,1,2,6] fun b11 hb11 b12 hb12=>?_
 refine aw rfl rfl (fun w' hm=>⟨?_,hm.b⟩)
 rw [hb12,hb11,hb7]
theorem yH {P:Program} {f:FuncId} {v p q:Value} {w:World} {Q:Ending→World→Prop} (h:Calls P f #[v,p,q] w Q):Calls P f (#[v]++#[p,q]) w Q:=by simpa using h
theorem c_IFI {v:Value} {xs:List Int} {D:Nat→Prop} (a b:Int) (p q:Nat) (w:World) (hxs:ab i8 D w v xs) (hp:w.cell? ⟨p,0,none⟩=some (Vi a)) (hq:w.cell? ⟨q,0,none⟩=some (Vi b)) :
  Calls Tryz.prog 210 #[v,.func (.func 184) #[] #[Pt p,Pt q]] w fun e w'=>e=.returned (Vi (zP (fun n=>decide (n < a) || decide (n > b)) xs))∧Later w w':=by
 obtain ⟨A,cp,rfl,hlc,hmx,hA⟩:=id hxs
 refine enter Tryz.func210 rfl Tryz.ntmps210 rfl ?_
 refine Rn [3,1,2,5,3,0,31,0,2,14] ?_
 refine aO (σ:=Nat) (fun k=>k≤xs.length∧∀ j (h:j < xs.length),j < k→(fun n=>decide (n < a) || decide (n > b)) xs[j]=false) (fun k=>[(0,.slice A xs.length cp),(1,.func (.func 184) #[] #[Pt p,Pt q]),(7,Vi xs.length),(8,Vi (k:Nat))]) (fun k=>[]) (fun k=>[(w,fun _=>True)]) (fun k=>xs.length - k) (0) (⟨Nat.zero_le _,by intros; omega⟩) (aC Zu (fun _ h=>h)) ?_
 rintro k ⟨hk,hno⟩
 refine Rn [144,3,24,2,5,12] fun b9 hb9=>Aw (fun hc9=>?_) fun hc9=>?_
 ·have hkl:k < xs.length:=by omega
  obtain ⟨b0,o0,hA0,hD0,hc0,_⟩:=fW hxs hkl
  refine Rn [16,5,14,3,0,1,9,0,0,0] ?_
  refine Xv rfl (ae ij cT (congrArg (fun A=>some (Value.slice A xs.length cp)) hA0) rfl Zo rfl) (Xl rfl u3 rfl (an (.head _) trivial (by rw [Nat.mul_one]; exact hc0)) ?_)
  refine x_clb rfl rfl rfl rfl Tryz.func184 Zk rfl (fun w1 hw1=>yH (c_wi1 xs[k] a b p q w1 (by rw [gp (hw1.b.block _ (eu hp))]; exact hp) (by rw [gp (hw1.b.block _ (eu hq))]; exact hq))) fun b16 hb16=>?_
  refine Rn [2,10] (Aw (fun hc16=>?_) fun hc16=>?_)
  ·have hb:(fun n=>decide (n < a) || decide (n > b)) xs[k]=true:=hb16.symm.trans hc16
   refine Rn [3,0,1,2,6,15,8,8,15,8] ?_
   refine aw rfl rfl (fun w' hm=>⟨?_,hm.b⟩)
   rw [zI hkl hb hno]
  have hb:(fun n=>decide (n < a) || decide (n > b)) xs[k]=false:=hb16.symm.trans hc16
  refine Rn [45,27,17,18,26,0,13] ?_
  exact aJ (k+1) ⟨by omega,fun j h hjk=>by rcases Nat.lt_succ_iff_lt_or_eq.1 hjk with h2 | rfl; (· exact hno j h h2); exact hb⟩ (by omega) Zu (fun _ h=>h)
 refine Rn [34,19,19,35,17,3,1,2,6] ?_
 refine aw rfl rfl (fun w' hm=>⟨?_,hm.b⟩)
 rw [j8 (fun j h=>hno j h (by omega))]
theorem c_CFI {v:Value} {xs:List Int} {D:Nat→Prop} (a b:Int) (p q:Nat) (w:World) (hxs:ab i8 D w v xs) (hp:w.cell? ⟨p,0,none⟩=some (Vi a)) (hq:w.cell? ⟨q,0,none⟩=some (Vi b)) :
  Calls Tryz.prog 183 #[v,.func (.func 184) #[] #[Pt p,Pt q]] w fun e w'=>e=.returned (.bool (xs.any (fun n=>decide (n < a) || decide (n > b))))∧Later w w':=by
 refine enter Tryz.func183 rfl Tryz.ntmps183 rfl ?_
 refine Rn [3,1,9,0,0] ?_
 refine Xc rfl Tryz.func210 rfl (fun w1 hw1=>c_IFI a b p q w1 (hxs.keep (aV.later hw1.b)) (by rw [gp (hw1.b.block _ (eu hp))]; exact hp) (by rw [gp (hw1.b.block _ (eu hq))]; exact hq)) ?_
 refine Rn [57,1,2,6] fun b8 hb8=>?_
 refine aw rfl rfl (fun w' hm=>⟨?_,hm.b⟩)
 rw [hb8,Bool.eq_iff_iff.2 (decide_eq_true_iff.trans (wB _ xs))]
theorem gP {v:Value} {xs:List Int} {D:Nat→Prop} (a b:Int) (w:World) (hxs:ab i8 D w v xs) :
  Calls Tryz.prog 164 #[Vi a,Vi b,v] w fun e w'=>e=.returned (.bool (wi a b xs))∧Later w w':=by
 refine enter Tryz.func164 rfl Tryz.ntmps164 rfl ?_
 refine Rn [3,36,36,1,9,0] fun p3 p4=>?_
 refine Xv rfl (vc rfl) (Xh rfl Tryz.func183 rfl (fun w1 hw1=>c_CFI a b p3 p4 w1 (hxs.keep (aV.later hw1.b)) (by rw [cell_of_row w1 p3 _ _ 3 (0,0) (hw1.own_at (p3,_) (.tail _ (.head _)))]; rfl) (by rw [cell_of_row w1 p4 _ _ 3 (0,0) (hw1.own_at (p4,_) (.head _))]; rfl)) fun b9 hb9=>?_)
 refine Rn [43,1,2,6] fun b10 hb10=>?_
 refine aw rfl rfl (fun w' hm=>⟨?_,hm.b⟩)
 rw [hb10,hb9]; rfl
theorem c_wrA (o:Ord) (w:World) (hok:o.ok) (h1:wi 1 999999999 [o.id,o.fund]=false) :
  Calls Tryz.prog 151 #[.agg o.cells.toArray] w fun e w'=>e=.returned (.bool (bV o))∧Later w w':=by
 have hok1:aj o.id∧aj o.fund:=⟨hok.1,hok.2.1⟩
 have hok2:aj o.src∧aj o.num∧aj o.price:=⟨hok.2.2.1,hok.2.2.2.1,hok.2.2.2.2.2⟩
 have hok3:aj o.copies:=hok.2.2.2.2.1
 refine enter Tryz.func151 rfl Tryz.ntmps151 rfl ?_
 refine Rn [3,36,1,9,4,7,4,7] fun p1=>?_
 refine ac (cs:=[Vi o.id,Vi o.fund]) rfl rfl rfl ij cT rP rfl rfl rfl ?_
 intro p7
 refine Xh rfl Tryz.func164 rfl (fun w1 hw1=>gP 1 999999999 w1 (dy (D:=fun _=>True) (e:=3) (r:=some (p7,[Vi o.id,Vi o.fund],2)) (n:=2) (ds:=[o.id,o.fund]) (cE rfl (by decide)) rfl (by simpa using hok1) hw1 (fun q hq=>by rw [List.mem_singleton.1 hq]; exact .head _) (fun _ _=>trivial))) fun b8 hb8=>?_
 obtain rfl:b8=false:=hb8.trans h1
 refine Rn [0,33,33,33,33,33,33,33,33,33,33] ?_
 refine Xv (v:=.bool false) rfl (jJ (b:=false) rfl rfl) ?_
 refine Rn [0,33,33,33,33] ?_
 refine Xv (v:=.bool false) rfl (jJ (b:=false) rfl rfl) ?_
 refine Rn [1,2,6] ?_
 refine aw rfl rfl (fun w' hm=>⟨?_,hm.b⟩)
 unfold bV; rw [h1]; rfl
theorem c_wrB (o:Ord) (w:World) (hok:o.ok) (h1:wi 1 999999999 [o.id,o.fund]=true) (h2:wi 0 999999999 [o.src,o.num,o.price]=false) :
  Calls Tryz.prog 151 #[.agg o.cells.toArray] w fun e w'=>e=.returned (.bool (bV o))∧Later w w':=by
 have hok1:aj o.id∧aj o.fund:=⟨hok.1,hok.2.1⟩
 have hok2:aj o.src∧aj o.num∧aj o.price:=⟨hok.2.2.1,hok.2.2.2.1,hok.2.2.2.2.2⟩
 have hok3:aj o.copies:=hok.2.2.2.2.1
 refine enter Tryz.func151 rfl Tryz.ntmps151 rfl ?_
 refine Rn [3,36,1,9,4,7,4,7] fun p1=>?_
 refine ac (cs:=[Vi o.id,Vi o.fund]) rfl rfl rfl ij cT rP rfl rfl rfl ?_
 intro p7
 refine Xh rfl Tryz.func164 rfl (fun w1 hw1=>gP 1 999999999 w1 (dy (D:=fun _=>True) (e:=3) (r:=some (p7,[Vi o.id,Vi o.fund],2)) (n:=2) (ds:=[o.id,o.fund]) (cE rfl (by decide)) rfl (by simpa using hok1) hw1 (fun q hq=>by rw [List.mem_singleton.1 hq]; exact .head _) (fun _ _=>trivial))) fun b8 hb8=>?_
 obtain rfl:b8=true:=hb8.trans h1
 refine Rn [0,22,22,40,22,22,40,22,40] ?_
 refine gz (cs:=[Vi o.src,Vi o.num,Vi o.price]) rfl rfl rfl rfl rfl ij cT rP rfl rfl rfl ?_
 intro p18
 refine cQ [] rfl rfl rfl rfl rfl Tryz.func164 Zk (fun hg=>by obtain ⟨hg0,_⟩:=hg; (try simp only [Qy]); refine ⟨_,rfl,?_⟩; exact fun w1 hw1=>gP 0 999999999 w1 (dy (D:=fun _=>True) (e:=3) (r:=some (p18,[Vi o.src,Vi o.num,Vi o.price],3)) (n:=3) (ds:=[o.src,o.num,o.price]) (cE rfl (by decide)) rfl (by simpa using hok2) hw1 (fun q hq=>by rw [List.mem_singleton.1 hq]; exact .head _) (fun _ _=>trivial))) fun b19 hb19=>?_
 obtain rfl:b19=false:=hb19.trans h2
 refine Xv (v:=.bool false) rfl (jJ (b:=true) rfl rfl) ?_
 refine Rn [0,33,33,33,33] ?_
 refine Xv (v:=.bool false) rfl (jJ (b:=false) rfl rfl) ?_
 refine Rn [1,2,6] ?_
 refine aw rfl rfl (fun w' hm=>⟨?_,hm.b⟩)
 unfold bV; rw [h1,h2]; rfl
theorem c_wrC (o:Ord) (w:World) (hok:o.ok) (h1:wi 1 999999999 [o.id,o.fund]=true) (h2:wi 0 999999999 [o.src,o.num,o.price]=true) :
  Calls Tryz.prog 151 #[.agg o.cells.toArray] w fun e w'=>e=.returned (.bool (bV o))∧Later w w':=by
 have hok1:aj o.id∧aj o.fund:=⟨hok.1,hok.2.1⟩
 have hok2:aj o.src∧aj o.num∧aj o.price:=⟨hok.2.2.1,hok.2.2.2.1,hok.2.2.2.2.2⟩
 have hok3:aj o.copies:=hok.2.2.2.2.1
 refine enter Tryz.func151 rfl Tryz.ntmps151 rfl ?_
 refine Rn [3,36,1,9,4,7,4,7] fun p1=>?_
 refine ac (cs:=[Vi o.id,Vi o.fund]) rfl rfl rfl ij cT rP rfl rfl rfl ?_
 intro p7
 refine Xh rfl Tryz.func164 rfl (fun w1 hw1=>gP 1 999999999 w1 (dy (D:=fun _=>True) (e:=3) (r:=some (p7,[Vi o.id,Vi o.fund],2)) (n:=2) (ds:=[o.id,o.fund]) (cE rfl (by decide)) rfl (by simpa using hok1) hw1 (fun q hq=>by rw [List.mem_singleton.1 hq]; exact .head _) (fun _ _=>trivial))) fun b8 hb8=>?_
 obtain rfl:b8=true:=hb8.trans h1
 refine Rn [0,22,22,40,22,22,40,22,40] ?_
 refine gz (cs:=[Vi o.src,Vi o.num,Vi o.price]) rfl rfl rfl rfl rfl ij cT rP rfl rfl rfl ?_
 intro p18
 refine cQ [] rfl rfl rfl rfl rfl Tryz.func164 Zk (fun hg=>by obtain ⟨hg0,_⟩:=hg; (try simp only [Qy]); refine ⟨_,rfl,?_⟩; exact fun w1 hw1=>gP 0 999999999 w1 (dy (D:=fun _=>True) (e:=3) (r:=some (p18,[Vi o.src,Vi o.num,Vi o.price],3)) (n:=3) (ds:=[o.src,o.num,o.price]) (cE rfl (by decide)) rfl (by simpa using hok2) hw1 (fun q hq=>by rw [List.mem_singleton.1 hq]; exact .head _) (fun _ _=>trivial))) fun b19 hb19=>?_
 obtain rfl:b19=true:=hb19.trans h2
 refine Rn [30] fun b20 hb20=>?_
 obtain rfl:b20=true:=hb20
 refine Rn [0,22,40] ?_
 refine gz (cs:=[Vi o.copies]) rfl rfl rfl rfl rfl ij cT rP rfl rfl rfl ?_
 intro p24
 refine cQ [] rfl rfl rfl rfl rfl Tryz.func164 Zk (fun hg=>by obtain ⟨hg0,_⟩:=hg; (try simp only [Qy]); refine ⟨_,rfl,?_⟩; exact fun w1 hw1=>gP 1 9999 w1 (dy (D:=fun _=>True) (e:=3) (r:=some (p24,[Vi o.copies],1)) (n:=1) (ds:=[o.copies]) (cE rfl (by decide)) rfl (by simpa using hok3) hw1 (fun q hq=>by rw [List.mem_singleton.1 hq]; exact .head _) (fun _ _=>trivial))) fun b25 hb25=>?_
 refine Xv (v:=.bool b25) rfl (jJ (b:=true) rfl rfl) ?_
 refine Rn [1,2,6] ?_
 refine aw rfl rfl (fun w' hm=>⟨?_,hm.b⟩)
 unfold bV; rw [h1,h2,hb25]; rfl
theorem oh (o:Ord) (w:World) (hok:o.ok) :
  Calls Tryz.prog 151 #[.agg o.cells.toArray] w fun e w'=>e=.returned (.bool (bV o))∧Later w w':=by
 cases h1:wi 1 999999999 [o.id,o.fund] with
 | false=>exact c_wrA o w hok h1
 | true =>
  cases h2:wi 0 999999999 [o.src,o.num,o.price] with
  | false=>exact c_wrB o w hok h1 h2
  | true=>exact c_wrC o w hok h1 h2
open Go.RowKit Go.PK
theorem yI {v:Value} {es:List ByteArray} {D:Nat→Prop} (tag:ByteArray) (w:World) (hes:ab aX D w v es) (hz:∀ e∈es,e.size≤2000000000) (hn:es.length≤1000) (hL:LD w) :
  Calls Tryz.prog 152 #[.string tag,v] w fun e w'=>∃ u,e=.returned (.agg #[.string tag,u])∧Later w w'∧ab (aP aX) (fun b=>w.heap.size≤b) w' u (es.map aN):=by
 obtain ⟨A,cp,rfl,hlc,hmx,_⟩:=id hes
 refine enter Tryz.func152 rfl Tryz.ntmps152 rfl ?_
 refine Rn [3,28,9,0] fun p4=>?_
 refine Xv rfl (aH (places:=[(0,1),(1,1)]) jE eY Zk rfl rfl) ?_
 refine Rn [28,32,2,5,3,0,31,0,2,14] fun p5=>?_
 refine qk ((Bk p5 [Value.string tag,au none (0)] 134)::(aA 78 none++[(Bk p4 [Value.string ⟨#[]⟩,.slice none 0 0] 134)])) (List.Sublist.refl _) (fun w0 hm0=>?_)
 refine aO (σ:=Nat×ak×World) (fun x=>x.1≤es.length∧cZ (aP aX) (dC w ((Bk p5 [Value.string tag,au x.2.1 (x.1)] 134)::(aA 78 x.2.1++[(Bk p4 [Value.string ⟨#[]⟩,.slice none 0 0] 134)]))) x.2.2 x.2.1 ((es.take x.1).map aN)) (fun x=>[(4,Pt p4),(5,Pt p5),(10,Value.slice A es.length cp),(11,Vi (es.length:Nat)),(12,Vi (x.1:Nat))]) (fun x=>(Bk p5 [Value.string tag,au x.2.1 (x.1)] 134)::(aA 78 x.2.1++[(Bk p4 [Value.string ⟨#[]⟩,.slice none 0 0] 134)])) (fun x=>(x.2.2,a7 ((Bk p5 [Value.string tag,au x.2.1 (x.1)] 134)::(aA 78 x.2.1++[(Bk p4 [Value.string ⟨#[]⟩,.slice none 0 0] 134)])))::[(w,fun _=>True)]) (fun x=>es.length - x.1) ((0,none,w0)) (⟨Nat.zero_le _,cZ.nil⟩) (aC Zu (fun _ h=>h)) ?_
 rintro ⟨k,R,ws⟩ ⟨hk,hT⟩
 refine Rn [144] ?_
 dsimp only at hk hT
 have hln:((es.take k).map aN).length=k:=by simp; omega
 refine Rn [3,24,2,5,10] fun b13 hb13=>Aw (fun hc13=>?_) fun hc13=>?_
 ·simp only [hb13,Qz,ne_eq] at hc13
  have hkl:k < es.length:=by omega
  obtain ⟨b0,o0,hA0,_,hc0,_⟩:=od hes hkl
  have hze:=hz _ (List.getElem_mem hkl)
  refine Rn [16,5,14,3] ?_
  refine Xv rfl (ae ez gG (congrArg (fun A=>some (Value.slice A es.length cp)) hA0) rfl Zo rfl) (Xl rfl u9 rfl (an (List.mem_cons_of_mem _ (.head _)) trivial (by rw [Nat.mul_one]; exact hc0)) ?_)
  refine Rn [1,2] ?_
  refine ew 5 [(true,0),(true,1),(true,2),(false,3),(false,4)] Zk Zk ?_
  refine Rn [4,7,0] ?_
  refine Xd (R:=fun v wa wb=>ab aX (fun b=>wa.heap.size≤b) wb v (aN es[k])) rfl Tryz.func173 rfl (fun w1 hw1=>c_Split es[k] w1 hze (hL.later hw1.b)) fun v19 wa wb hwa hwl hR=>?_
  obtain ⟨A9,c9,rfl,hl9,hm9,_⟩:=id hR
  obtain ⟨css,hcl,hrow,hrd⟩:=hT
  rw [hln] at hcl hrow
  refine ac (cs:=[Value.slice A9 (aN es[k]).length c9]) rfl rfl rfl dd fw rR rfl rfl rfl ?_
  intro p20
  refine be (e:=78) [(Bk p20 [Value.slice A9 (aN es[k]).length c9] 78),(Bk p5 [Value.string tag,au R (k)] 134)] (l2:=[(Bk p4 [Value.string ⟨#[]⟩,.slice none 0 0] 134)]) R (len:=k) (xs:=css.flatten) rfl rfl rfl rfl rfl hrow dd ap78 rfl rfl (m:=1) (news:=[Value.slice A9 (aN es[k]).length c9]) (fun i hi=>aa (vs:=[Value.slice A9 (aN es[k]).length c9]) (.head _) (by rw [Nat.zero_add]; exact List.getElem?_eq_getElem hi)) rfl Zx (by omega) fun R' hR'=>?_
  refine Rn [4] ?_
  refine aG (cs:=[Value.string tag,au R k]) (off:=1) [(Bk p20 [Value.slice A9 (aN es[k]).length c9] 78)] rfl rfl rfl rfl tK rfl (by show 2≤2; decide) ?_
  refine Rn [13,27,17,18,26,0,13] ?_
  refine qj ((Bk p5 [Value.string tag,au R' (k+1)] 134)::(aA 78 R'++[(Bk p4 [Value.string ⟨#[]⟩,.slice none 0 0] 134)])) Ls (fun w0 hm0=>?_)
  have hT':=nV (T:=aP aX) (D:=dC w ((Bk p5 [Value.string tag,au R' (k+1)] 134)::(aA 78 R'++[(Bk p4 [Value.string ⟨#[]⟩,.slice none 0 0] 134)]))) (ws:=w0) (x:=aN es[k]) hln hcl (fun j h1 h2=>(aP aX).keep (hrd j h1 h2) (aV.frz hm0 Ls (by simp))) hR' ⟨_,rfl,hR.keep (aV.made2 (hm0.less Ls (fun _ h=>h)) (.head _) (fun k hk p hp he=>by have:=hwa.lt hp; omega) hwa.b.size)⟩
  exact aJ (x:=(k,R,ws)) (μ:=fun q:Nat×ak×World=>es.length - q.1) (k+1,R',w0) ⟨by dsimp only; omega,by dsimp only; rw [List.take_succ_eq_append_getElem hkl,List.map_append]; exact hT'⟩ (by simp only; omega) Zu (fun w1 h=>h.less (List.Sublist.refl _) (fun q hq=>by simp at hq ⊢; rcases hq with h | h; (· exact .inl h); simp [h]))
 simp only [hb13,decide_eq_false_iff_not] at hc13
 obtain rfl:k=es.length:=by omega
 rw [List.take_length] at hT hln
 refine Rn [34,19,19,35,17,3,39] ?_
 refine bX ((Bk p5 [Value.string tag,au R (es.length)] 134)::aA 78 R) rfl rfl rfl rfl bQ rfl rfl ?_
 refine Rn [2,6] ?_
 refine tz rfl rfl (List.mem_cons_of_mem _ (List.mem_append_right _ (.head _))) jE rfl bQ (fun w' hm=>⟨_,rfl,hm.b,?_⟩)
 exact (hT.keep (aV.frz hm (List.Sublist.refl _) (.head _))).rd (e:=78) hm (fun q hq=>List.mem_cons_of_mem _ (List.mem_append_left _ hq)) (fun _ h=>h.1) (fun q hq=>hm.newer (by simp) (List.mem_cons_of_mem _ (List.mem_append_left _ hq))) hln.symm
open Go.RowKit Go.PK
def rY (tag:ByteArray) (n:Nat) (ys:List (List ByteArray)) (v:Value) (wa wb:World):Prop:=∃ A c,v=.agg #[.string tag,.slice A n c]∧ab (aP aX) (fun b=>wa.heap.size≤b) wb (.slice A n c) ys
theorem yJ {o:Ord} {w w':World} {own:List (Nat×Obj)} {ro:List av} {p:Nat} {A7:Option Addr} {c7:Nat} {A12:Option Addr} {c12:Nat} {A17:Option Addr} {c17:Nat} {A23:Option Addr} {c23:Nat} {A29:Option Addr} {c29:Nat} {A35:Option Addr} {c35:Nat} {A37:Option Addr} {c37:Nat} (hm:Mem w' own ro) (hp:(Bk p (([[Value.string ⟨#[85,78,72]⟩,.slice A7 2 c7],[Value.string ⟨#[66,71,77]⟩,.slice A12 2 c12],[Value.string ⟨#[76,73,78]⟩,.slice A17 3 c17],[Value.string ⟨#[81,84,89]⟩,.slice A23 1 c23],[Value.string ⟨#[80,82,73]⟩,.slice A29 1 c29],[Value.string ⟨#[82,70,70]⟩,.slice A35 1 c35],[Value.string ⟨#[85,78,84]⟩,.slice A37 2 c37]]:List (List Value)).flatten) 134)∈own) (hw:bV o=true) (hl:Later w w') (h0:(w,fun _=>True)∈ro) (h7:ab (aP aX) (dC w own) w' (.slice A7 2 c7) [aN (⟨#[49]⟩),aN (⟨#[79,82,68,69,82,83,58,68,58,57,54,65,58,85,78]⟩)]) (h12:ab (aP aX) (dC w own) w' (.slice A12 2 c12) [aN (⟨#[50,50,48]⟩),aN (ai o.id)]) (h17:ab (aP aX) (dC w own) w' (.slice A17 3 c17) [aN (⟨#[49]⟩),aN (⟨#[]⟩),aN (kB o.src o.num)]) (h23:ab (aP aX) (dC w own) w' (.slice A23 1 c23) [aN ((⟨#[50,49,58]⟩:ByteArray)++ai o.copies)]) (h29:ab (aP aX) (dC w own) w' (.slice A29 1 c29) [aN ((⟨#[65,65,65,58]⟩:ByteArray)++ai o.price)]) (h35:ab (aP aX) (dC w own) w' (.slice A35 1 c35) [aN ((⟨#[66,70,78,58]⟩:ByteArray)++ai o.fund)]) (h37:ab (aP aX) (dC w own) w' (.slice A37 2 c37) [aN (⟨#[55]⟩),aN (⟨#[49]⟩)]) :
  ∃ v,Ending.returned (.slice (some ⟨p,0,none⟩) 7 7)=.returned v∧Later w w'∧ab aZ (fun b=>w.heap.size≤b) w' v (aU o)∧((aU o).length=0→v=.slice none 0 0):=by
 rw [show aU o=eF o from by unfold aU; rw [if_pos hw]]
 exact ⟨_,rfl,hl,RdAll.rd (e:=134) (css:=[[Value.string ⟨#[85,78,72]⟩,.slice A7 2 c7],[Value.string ⟨#[66,71,77]⟩,.slice A12 2 c12],[Value.string ⟨#[76,73,78]⟩,.slice A17 3 c17],[Value.string ⟨#[81,84,89]⟩,.slice A23 1 c23],[Value.string ⟨#[80,82,73]⟩,.slice A29 1 c29],[Value.string ⟨#[82,70,70]⟩,.slice A35 1 c35],[Value.string ⟨#[85,78,84]⟩,.slice A37 2 c37]]) (xs:=eF o) (.cons (bk (x:=⟨⟨#[85,78,72]⟩,[aN (⟨#[49]⟩),aN (⟨#[79,82,68,69,82,83,58,68,58,57,54,65,58,85,78]⟩)]⟩) rfl (show (3:Nat)≤9223372036854775807 by decide) h7) (.cons (bk (x:=⟨⟨#[66,71,77]⟩,[aN (⟨#[50,50,48]⟩),aN (ai o.id)]⟩) rfl (show (3:Nat)≤9223372036854775807 by decide) h12) (.cons (bk (x:=⟨⟨#[76,73,78]⟩,[aN (⟨#[49]⟩),aN (⟨#[]⟩),aN (kB o.src o.num)]⟩) rfl (show (3:Nat)≤9223372036854775807 by decide) h17) (.cons (bk (x:=⟨⟨#[81,84,89]⟩,[aN ((⟨#[50,49,58]⟩:ByteArray)++ai o.copies)]⟩) rfl (show (3:Nat)≤9223372036854775807 by decide) h23) (.cons (bk (x:=⟨⟨#[80,82,73]⟩,[aN ((⟨#[65,65,65,58]⟩:ByteArray)++ai o.price)]⟩) rfl (show (3:Nat)≤9223372036854775807 by decide) h29) (.cons (bk (x:=⟨⟨#[82,70,70]⟩,[aN ((⟨#[66,70,78,58]⟩:ByteArray)++ai o.fund)]⟩) rfl (show (3:Nat)≤9223372036854775807 by decide) h35) (.cons (bk (x:=⟨⟨#[85,78,84]⟩,[aN (⟨#[55]⟩),aN (⟨#[49]⟩)]⟩) rfl (show (3:Nat)≤9223372036854775807 by decide) h37) (.nil)))))))) hm hp h0 rfl (show (7:Nat)≤maxLen by decide),fun h=>absurd (show (7:Nat)=0 from h) (by decide)⟩
theorem dh {tag:ByteArray} {u:Value} {e:Ending} {wa wb:World} {ys:List (List ByteArray)} {n:Nat} (h1:e=.returned (.agg #[.string tag,u])) (h2:Later wa wb) (h3:ab (aP aX) (fun b=>wa.heap.size≤b) wb u ys) (hn:ys.length=n:=by rfl) :
  ∃ v,e=.returned v∧Later wa wb∧rY tag n ys v wa wb:=by
 obtain ⟨A,c,rfl,hh⟩:=id h3
 subst hn
 exact ⟨_,h1,h2,A,c,rfl,h3⟩
theorem ok_of {s:ByteArray} (h:s.size≤100):iD s:=by unfold iD; omega
theorem oB {P:Program} {ops:Array Oper} {n:Nat} {l:List (Nat×Value)} {own:List (Nat×Obj)} {ro:List av} {Q:Exit→Act→World→Prop} {K:Act→World→Prop} {rest:List (Option Bool×Nat)} {k:Option Bool} {j:Nat} (b:Nat) (h:WX P ops Q K ((k,j)::rest) n l own ro) (e:Nat.ble j b=true:=by exact rfl):WX P ops Q K ((k,j)::rest) n l own ro:=h
theorem Zy {p:Prop} (h:p:=by
  intro s hs
  simp only [List.mem_cons,List.not_mem_nil,or_false] at hs
  first | (rcases hs with rfl | rfl | rfl) | (rcases hs with rfl | rfl) | (subst hs)
  all_goals (first | decide | omega | (rw [ByteArray.size_append]; show (⟨#[_,_,_,_]⟩:ByteArray).size+_≤100; exact Nat.le_trans (Nat.add_le_add_left (by assumption) _) (by decide)) | (rw [ByteArray.size_append]; show (⟨#[_,_,_]⟩:ByteArray).size+_≤100; exact Nat.le_trans (Nat.add_le_add_left (by assumption) _) (by decide)))):p:=h
theorem u7 {tag:ByteArray} {es:List ByteArray} {ys:List (List ByteArray)} {cs:List Value} {n:Nat} (hy:es.map aN=ys) (hz:∀ s∈es,s.size≤100) (hc:es.map Value.string=cs) (hn:n=es.length) (h1:n≤1000) {own:List (Nat×Obj)} {ro:List av} {p:Nat} (w1:World) (hw1:Mem w1 own ro) (hp:(Bk p cs 9)∈own) (hLL:LD w1) :
  Calls Tryz.prog 152 #[.string tag,.slice (some ⟨p,0,none⟩) n n] w1 fun e w'=>∃ v,e=.returned v∧Later w1 w'∧rY tag n ys v w1 w':=by
 subst hy; subst hc; subst hn
 exact (yI (es:=es) (D:=fun _=>True) tag w1 (wY (e:=9) (r:=some (p,es.map Value.string,es.length)) (n:=es.length) (cE (by simp) (Nat.le_trans h1 (by decide))) rfl (fun s hs=>ok_of (hz s hs)) hw1 (fun q hq=>by rw [List.mem_singleton.1 hq]; exact hp) (fun _ _=>trivial)) (fun s hs=>Nat.le_trans (hz s hs) (by decide)) h1 hLL).mono fun e w2 ⟨u,h1,h2,h3⟩=>dh h1 h2 h3 (by rw [List.length_map])
theorem xe (o:Ord) (w:World) (hok:o.ok) (hL:LD w) :
  Calls Tryz.prog 104 #[.agg o.cells.toArray] w fun e w'=>∃ v,e=.returned v∧Later w w'∧ab aZ (fun b=>w.heap.size≤b) w' v (aU o)∧((aU o).length=0→v=.slice none 0 0):=by
 have y1:=br hok.1
 have y2:=br hok.2.1
 have y3:=br hok.2.2.2.2.1
 have y4:=br hok.2.2.2.2.2
 have y5:=qD hok.2.2.1 hok.2.2.2.1
 have z6:∀ s∈([⟨#[49]⟩,⟨#[79,82,68,69,82,83,58,68,58,57,54,65,58,85,78]⟩]:List ByteArray),s.size≤100:=Zy
 have z11:∀ s∈([⟨#[50,50,48]⟩,ai o.id]:List ByteArray),s.size≤100:=Zy
 have z16:∀ s∈([⟨#[49]⟩,⟨#[]⟩,kB o.src o.num]:List ByteArray),s.size≤100:=Zy
 have z22:∀ s∈([(⟨#[50,49,58]⟩:ByteArray)++ai o.copies]:List ByteArray),s.size≤100:=Zy
 have z28:∀ s∈([(⟨#[65,65,65,58]⟩:ByteArray)++ai o.price]:List ByteArray),s.size≤100:=Zy
 have z34:∀ s∈([(⟨#[66,70,78,58]⟩:ByteArray)++ai o.fund]:List ByteArray),s.size≤100:=Zy
 have z36:∀ s∈([⟨#[55]⟩,⟨#[49]⟩]:List ByteArray),s.size≤100:=Zy
 refine enter Tryz.func104 rfl Tryz.ntmps104 rfl ?_
 refine Rn [3,36,1,2,5,3,39] fun p1=>?_
 refine Xh rfl Tryz.func151 rfl (fun w1 hw1=>oh o w1 hok) fun b4 hb4=>?_
 refine Rn [43,2,10] fun b5 hb5=>Aw (fun hc5=>?_) fun hc5=>?_
 ·have hw:bV o=false:=by rw [hb5,hb4] at hc5; simpa using hc5
  refine Rn [3,1,2,6,8] ?_
  refine aw rfl rfl (fun w' hm=>?_)
  rw [show aU o=[] from by unfold aU; rw [hw]; rfl]; exact ⟨_,rfl,hm.b,aT,fun _=>rfl⟩
 have hw:bV o=true:=by rw [hb5,hb4] at hc5; simpa using hc5
 refine Rn [16,5] ?_
 refine rM 34 (.flt 2 (.flt 3 (.flt 7 (.flt 8 (.flt 12 (.flt 13 (.flt 18 (.flt 19 (.flt 24 (.flt 25 (.gr 0 (.gr 1 (.flt 4 (.gr 5 (.gr 6 (.flt 9 (.gr 10 (.gr 11 (.flt 14 (.flt 15 (.gr 16 (.gr 17 (.flt 20 (.flt 21 (.gr 22 (.gr 23 (.flt 26 (.flt 27 (.gr 28 (.gr 29 (.gr 30 (.gr 31 (.gr 32 (.flt 33 .done) .nil) .nil) .nil) (.gr 30 (.gr 29 (.gr 31 (.gr 32 (.flt 33 .done) .nil) .nil) .nil) .nil)) (.gr 30 (.gr 28 (.gr 29 (.gr 31 (.gr 32 (.flt 33 .done) .nil) .nil) .nil) .nil) .nil)))) (.gr 30 (.gr 23 (.flt 26 (.flt 27 (.gr 28 (.gr 29 (.gr 31 (.gr 32 (.flt 33 .done) .nil) .nil) .nil) .nil))) .nil) .nil)) (.gr 30 (.gr 22 (.gr 23 (.flt 26 (.flt 27 (.gr 28 (.gr 29 (.gr 31 (.gr 32 (.flt 33 .done) .nil) .nil) .nil) .nil))) .nil) .nil) .nil)))) (.gr 30 (.gr 17 (.flt 20 (.flt 21 (.gr 22 (.gr 23 (.flt 26 (.flt 27 (.gr 28 (.gr 29 (.gr 31 (.gr 32 (.flt 33 .done) .nil) .nil) .nil) .nil))) .nil) .nil))) .nil) .nil)) (.gr 30 (.gr 16 (.gr 17 (.flt 20 (.flt 21 (.gr 22 (.gr 23 (.flt 26 (.flt 27 (.gr 28 (.gr 29 (.gr 31 (.gr 32 (.flt 33 .done) .nil) .nil) .nil) .nil))) .nil) .nil))) .nil) .nil) .nil)))) (.gr 30 (.gr 11 (.flt 14 (.flt 15 (.gr 16 (.gr 17 (.flt 20 (.flt 21 (.gr 22 (.gr 23 (.flt 26 (.flt 27 (.gr 28 (.gr 29 (.gr 31 (.gr 32 (.flt 33 .done) .nil) .nil) .nil) .nil))) .nil) .nil))) .nil) .nil))) .nil) .nil)) (.gr 30 (.gr 10 (.gr 11 (.flt 14 (.flt 15 (.gr 16 (.gr 17 (.flt 20 (.flt 21 (.gr 22 (.gr 23 (.flt 26 (.flt 27 (.gr 28 (.gr 29 (.gr 31 (.gr 32 (.flt 33 .done) .nil) .nil) .nil) .nil))) .nil) .nil))) .nil) .nil))) .nil) .nil) .nil))) (.gr 30 (.gr 6 (.flt 9 (.gr 10 (.gr 11 (.flt 14 (.flt 15 (.gr 16 (.gr 17 (.flt 20 (.flt 21 (.gr 22 (.gr 23 (.flt 26 (.flt 27 (.gr 28 (.gr 29 (.gr 31 (.gr 32 (.flt 33 .done) .nil) .nil) .nil) .nil))) .nil) .nil))) .nil) .nil))) .nil) .nil)) .nil) .nil)) (.gr 30 (.gr 5 (.gr 6 (.flt 9 (.gr 10 (.gr 11 (.flt 14 (.flt 15 (.gr 16 (.gr 17 (.flt 20 (.flt 21 (.gr 22 (.gr 23 (.flt 26 (.flt 27 (.gr 28 (.gr 29 (.gr 31 (.gr 32 (.flt 33 .done) .nil) .nil) .nil) .nil))) .nil) .nil))) .nil) .nil))) .nil) .nil)) .nil) .nil) .nil))) (.gr 30 (.gr 1 (.flt 4 (.gr 5 (.gr 6 (.flt 9 (.gr 10 (.gr 11 (.flt 14 (.flt 15 (.gr 16 (.gr 17 (.flt 20 (.flt 21 (.gr 22 (.gr 23 (.flt 26 (.flt 27 (.gr 28 (.gr 29 (.gr 31 (.gr 32 (.flt 33 .done) .nil) .nil) .nil) .nil))) .nil) .nil))) .nil) .nil))) .nil) .nil)) .nil) .nil)) .nil) .nil)) (.gr 30 (.gr 0 (.gr 1 (.flt 4 (.gr 5 (.gr 6 (.flt 9 (.gr 10 (.gr 11 (.flt 14 (.flt 15 (.gr 16 (.gr 17 (.flt 20 (.flt 21 (.gr 22 (.gr 23 (.flt 26 (.flt 27 (.gr 28 (.gr 29 (.gr 31 (.gr 32 (.flt 33 .done) .nil) .nil) .nil) .nil))) .nil) .nil))) .nil) .nil))) .nil) .nil)) .nil) .nil)) .nil) .nil) .nil)))))))))))) Zk Zk ?_
 repeat' first
 |with_reducible refine t_flt (Q:=fun _ _ _=>False) ?_
 |with_reducible refine t_gr (Q:=fun _ _ _=>False) ?_ ?_
 |(with_reducible refine oS ?_
   first
   |exact t_nil
   |(refine vh ?_
     refine Rn [2,6] ?_
     exact aw rfl rfl (fun w' hm=>yJ hm (.head _) hw hm.b Zh (hs7.keep (aV.made hm Zh hm7 hm7.b.size)) (hs12.keep (aV.made hm Zh hm12 hm12.b.size)) (hs17.keep (aV.made hm Zh hm17 hm17.b.size)) (hs23.keep (aV.made hm Zh hm23 hm23.b.size)) (hs29.keep (aV.made hm Zh hm29 hm29.b.size)) (hs35.keep (aV.made hm Zh hm35 hm35.b.size)) (hs37.keep (aV.made hm Zh hm37 hm37.b.size)))))
 |(refine oB 5 ?_
   first
   |(refine oI 0 ?_
     refine ac (cs:=[Value.string (⟨#[49]⟩),Value.string (⟨#[79,82,68,69,82,83,58,68,58,57,54,65,58,85,78]⟩)]) rfl rfl rfl ez gG kA rfl rfl rfl ?_
     intro p6
     refine Ze ?_)
   |(refine oI 1 ?_
     refine Xd rfl Tryz.func152 rfl (fun w1 hw1=>u7 (es:=[⟨#[49]⟩,⟨#[79,82,68,69,82,83,58,68,58,57,54,65,58,85,78]⟩]) (ys:=[aN (⟨#[49]⟩),aN (⟨#[79,82,68,69,82,83,58,68,58,57,54,65,58,85,78]⟩)]) rfl z6 rfl rfl (Nat.le_of_ble_eq_true rfl) w1 hw1 Zh (hL.later hw1.b)) fun v7 wa7 wb7 hm7 hl7 hR7=>?_
     obtain ⟨A7,c7,rfl,hs7⟩:=hR7
     refine Ze ?_)
   |(refine oI 2 ?_
     refine Rn [4,13] ?_)
   |(refine oI 3 ?_
     refine Rn [7,13] ?_)
   |(refine oI 4 ?_
     refine Xc rfl Tryz.func115 rfl (fun w1 hw1=>de o.id w1 hok.1 (hL.later hw1.b)) ?_
     refine Ze ?_)
   |(refine oI 5 ?_
     refine ac (cs:=[Value.string (⟨#[50,50,48]⟩),Value.string (ai o.id)]) rfl rfl rfl ez gG kA rfl rfl rfl ?_
     intro p11
     refine Ze ?_))
 |(refine oB 11 ?_
   first
   |(refine oI 6 ?_
     refine Xd rfl Tryz.func152 rfl (fun w1 hw1=>u7 (es:=[⟨#[50,50,48]⟩,ai o.id]) (ys:=[aN (⟨#[50,50,48]⟩),aN (ai o.id)]) rfl z11 rfl rfl (Nat.le_of_ble_eq_true rfl) w1 hw1 Zh (hL.later hw1.b)) fun v12 wa12 wb12 hm12 hl12 hR12=>?_
     obtain ⟨A12,c12,rfl,hs12⟩:=hR12
     refine Ze ?_)
   |(refine oI 7 ?_
     refine Rn [4,13] ?_)
   |(refine oI 8 ?_
     refine Xv rfl (bj (vs:=[Vi o.src,Vi o.num]) l9 rfl iL rfl (fun j hj=>aa (vs:=o.cells) Zh (by match j,hj with | 0,_=>rfl | 1,_=>rfl))) (Ze ?_))
   |(refine oI 9 ?_
     refine Xc rfl Tryz.func153 rfl (fun w1 hw1=>qE o.src o.num w1 hok.2.2.1 hok.2.2.2.1 (hL.later hw1.b)) ?_
     refine Ze ?_)
   |(refine oI 10 ?_
     refine ac (cs:=[Value.string (⟨#[49]⟩),Value.string (⟨#[]⟩),Value.string (kB o.src o.num)]) rfl rfl rfl ez gG kA rfl rfl rfl ?_
     intro p16
     refine Ze ?_)
   |(refine oI 11 ?_
     refine Xd rfl Tryz.func152 rfl (fun w1 hw1=>u7 (es:=[⟨#[49]⟩,⟨#[]⟩,kB o.src o.num]) (ys:=[aN (⟨#[49]⟩),aN (⟨#[]⟩),aN (kB o.src o.num)]) rfl z16 rfl rfl (Nat.le_of_ble_eq_true rfl) w1 hw1 Zh (hL.later hw1.b)) fun v17 wa17 wb17 hm17 hl17 hR17=>?_
     obtain ⟨A17,c17,rfl,hs17⟩:=hR17
     refine Ze ?_))
 |(refine oB 17 ?_
   first
   |(refine oI 12 ?_
     refine Rn [4,13] ?_)
   |(refine oI 13 ?_
     refine Rn [7,13] ?_)
   |(refine oI 14 ?_
     refine Xc rfl Tryz.func115 rfl (fun w1 hw1=>de o.copies w1 hok.2.2.2.2.1 (hL.later hw1.b)) ?_
     refine Ze ?_)
   |(refine oI 15 ?_
     refine Xv rfl (cK rfl rfl (by show 3+(ai _).size≤_; omega)) (Ze ?_))
   |(refine oI 16 ?_
     refine ac (cs:=[Value.string ((⟨#[50,49,58]⟩:ByteArray)++ai o.copies)]) rfl rfl rfl ez gG kA rfl rfl rfl ?_
     intro p22
     refine Ze ?_)
   |(refine oI 17 ?_
     refine Xd rfl Tryz.func152 rfl (fun w1 hw1=>u7 (es:=[(⟨#[50,49,58]⟩:ByteArray)++ai o.copies]) (ys:=[aN ((⟨#[50,49,58]⟩:ByteArray)++ai o.copies)]) rfl z22 rfl rfl (Nat.le_of_ble_eq_true rfl) w1 hw1 Zh (hL.later hw1.b)) fun v23 wa23 wb23 hm23 hl23 hR23=>?_
     obtain ⟨A23,c23,rfl,hs23⟩:=hR23
     refine Ze ?_))
 |(refine oB 23 ?_
   first
   |(refine oI 18 ?_
     refine Rn [4,13] ?_)
   |(refine oI 19 ?_
     refine Rn [7,13] ?_)
   |(refine oI 20 ?_
     refine Xc rfl Tryz.func115 rfl (fun w1 hw1=>de o.price w1 hok.2.2.2.2.2 (hL.later hw1.b)) ?_
     refine Ze ?_)
   |(refine oI 21 ?_
     refine Xv rfl (cK rfl rfl (by show 4+(ai _).size≤_; omega)) (Ze ?_))
   |(refine oI 22 ?_
     refine ac (cs:=[Value.string ((⟨#[65,65,65,58]⟩:ByteArray)++ai o.price)]) rfl rfl rfl ez gG kA rfl rfl rfl ?_
     intro p28
     refine Ze ?_)
   |(refine oI 23 ?_
     refine Xd rfl Tryz.func152 rfl (fun w1 hw1=>u7 (es:=[(⟨#[65,65,65,58]⟩:ByteArray)++ai o.price]) (ys:=[aN ((⟨#[65,65,65,58]⟩:ByteArray)++ai o.price)]) rfl z28 rfl rfl (Nat.le_of_ble_eq_true rfl) w1 hw1 Zh (hL.later hw1.b)) fun v29 wa29 wb29 hm29 hl29 hR29=>?_
     obtain ⟨A29,c29,rfl,hs29⟩:=hR29
     refine Ze ?_))
 |(refine oB 29 ?_
   first
   |(refine oI 24 ?_
     refine Rn [4,13] ?_)
   |(refine oI 25 ?_
     refine Rn [7,13] ?_)
   |(refine oI 26 ?_
     refine Xc rfl Tryz.func115 rfl (fun w1 hw1=>de o.fund w1 hok.2.1 (hL.later hw1.b)) ?_
     refine Ze ?_)
   |(refine oI 27 ?_
     refine Xv rfl (cK rfl rfl (by show 4+(ai _).size≤_; omega)) (Ze ?_))
   |(refine oI 28 ?_
     refine ac (cs:=[Value.string ((⟨#[66,70,78,58]⟩:ByteArray)++ai o.fund)]) rfl rfl rfl ez gG kA rfl rfl rfl ?_
     intro p34
     refine Ze ?_)
   |(refine oI 29 ?_
     refine Xd rfl Tryz.func152 rfl (fun w1 hw1=>u7 (es:=[(⟨#[66,70,78,58]⟩:ByteArray)++ai o.fund]) (ys:=[aN ((⟨#[66,70,78,58]⟩:ByteArray)++ai o.fund)]) rfl z34 rfl rfl (Nat.le_of_ble_eq_true rfl) w1 hw1 Zh (hL.later hw1.b)) fun v35 wa35 wb35 hm35 hl35 hR35=>?_
     obtain ⟨A35,c35,rfl,hs35⟩:=hR35
     refine Ze ?_))
 |(refine oI 30 ?_
   refine ac (cs:=[Value.string (⟨#[55]⟩),Value.string (⟨#[49]⟩)]) rfl rfl rfl ez gG kA rfl rfl rfl ?_
   intro p36
   refine Ze ?_)
 |(refine oI 31 ?_
   refine Xd rfl Tryz.func152 rfl (fun w1 hw1=>u7 (es:=[⟨#[55]⟩,⟨#[49]⟩]) (ys:=[aN (⟨#[55]⟩),aN (⟨#[49]⟩)]) rfl z36 rfl rfl (Nat.le_of_ble_eq_true rfl) w1 hw1 Zh (hL.later hw1.b)) fun v37 wa37 wb37 hm37 hl37 hR37=>?_
   obtain ⟨A37,c37,rfl,hs37⟩:=hR37
   refine Ze ?_)
 |(refine oI 32 ?_
   refine ac (cs:=([[Value.string ⟨#[85,78,72]⟩,.slice A7 2 c7],[Value.string ⟨#[66,71,77]⟩,.slice A12 2 c12],[Value.string ⟨#[76,73,78]⟩,.slice A17 3 c17],[Value.string ⟨#[81,84,89]⟩,.slice A23 1 c23],[Value.string ⟨#[80,82,73]⟩,.slice A29 1 c29],[Value.string ⟨#[82,70,70]⟩,.slice A35 1 c35],[Value.string ⟨#[85,78,84]⟩,.slice A37 2 c37]]:List (List Value)).flatten) rfl rfl rfl jH bQ eY rfl rfl rfl ?_
   intro p38
   refine Ze ?_)
 |(refine oI 33 ?_
   refine Rn [1,13] ?_)
open Go.RowKit Go.PK
open Go.RowKit Go.PK
open Go.RowKit Go.PK
theorem tmodN {n m:Int} (h:0 < m):(n.tmod m+m).tmod m=n%m:=tmod_mod n m h
theorem c_DecN (u0:Nat) (w:World) (hu:u0≤9223372036854775807) :
  Calls Tryz.prog 73 #[Vi (u0:Nat)] w fun e w'=>e=.returned (.string (ai (u0:Nat)))∧Later w w':=by
 refine enter Tryz.func73 rfl Tryz.ntmps73 rfl ?_
 refine Rn [3,1,9,1,2,5,14] ?_
 refine aO (σ:=Nat×List UInt8) (fun x=>Lib.decDigits x.1++x.2=Lib.decDigits u0∧x.2.length≤20∧x.1≤9223372036854775807) (fun x=>[(0,Vi (x.1:Nat)),(3,Value.string ⟨x.2.toArray⟩)]) (fun x=>[]) (fun x=>[(w,fun _=>True)]) (fun x=>x.1) ((u0,[])) (⟨List.append_nil _,Nat.zero_le _,hu⟩) (aC Zu (fun _ h=>h)) ?_
 rintro ⟨u,s⟩ ⟨hd,hl,hu1⟩
 refine Rn [144] ?_
 dsimp only at hd hl hu1
 have e10:(10:Nat) ^ (18+1)=10000000000000000000:=by decide
 have hlen:(Lib.decDigits u).length+s.length≤19:=by rw [← List.length_append,hd]; exact (rZ 18 u0).2 (by omega)
 refine Rn [5,3,0,60,2,12] fun b5 hb5=>Aw (fun hc5=>?_) fun hc5=>?_
 ·have hb:¬u < 10:=by omega
  have hdb:=ke hb
  rw [hdb] at hd hlen
  simp only [List.length_append,List.length_singleton] at hlen
  refine Rn [16,14,3,0] ?_
  refine Xv rfl (mw (a:=u) (b:=10) rfl rfl (by decide)) (Xv rfl (bg (c:=((48+u%10:Nat):Int)) rfl rfl (by omega) (by omega)) (Xv rfl (jZ (c:=48+u%10) u3 u5 rfl (by omega)) ?_))
  refine ac (cs:=ea [UInt8.ofNat (48+u%10)]) rfl rfl rfl jU lq vk rfl rfl rfl ?_
  intro p10
  refine Xv rfl (ji (e:=5) [UInt8.ofNat (48+u%10)] (jU) u5 u9 rfl rfl (fun j hj=>aa (vs:=ea [UInt8.ofNat (48+u%10)]) (.head _) (by rw [Nat.zero_add]; exact rE hj))) (Xm ?_)
  refine Xv rfl (nt (a:=[UInt8.ofNat (48+u%10)]) (b:=s) rfl rfl (by simp only [List.length_singleton]; omega)) ?_
  refine Rn [1,2,18,0] ?_
  refine Xv rfl (v_quoN (a:=u) (b:=10) rfl rfl (by decide) (by omega)) ?_
  refine Rn [1,13,27] ?_
  exact aJ (u / 10,[UInt8.ofNat (48+u%10)]++s) ⟨by dsimp only; rw [← List.append_assoc]; exact hd,by simp only [List.length_append,List.length_singleton]; omega,by dsimp only; omega⟩ (by simp only; omega) Zu (fun w1 h=>h.less (List.nil_sublist _) (fun _ h=>h))
 have hs:u < 10:=by omega
 rw [eK hs] at hd
 refine Rn [34,19,19,35,17,3,0] ?_
 refine Xv rfl (bg (c:=((48+u:Nat):Int)) rfl rfl (by omega) (by omega)) (Xv rfl (jZ (c:=48+u) u3 u5 rfl (by omega)) ?_)
 refine ac (cs:=ea [UInt8.ofNat (48+u)]) rfl rfl rfl jU lq vk rfl rfl rfl ?_
 intro p19
 refine Xv rfl (ji (e:=5) [UInt8.ofNat (48+u)] (jU) u5 u9 rfl rfl (fun j hj=>aa (vs:=ea [UInt8.ofNat (48+u)]) (.head _) (by rw [Nat.zero_add]; exact rE hj))) (Xm ?_)
 refine Xv rfl (nt (a:=[UInt8.ofNat (48+u)]) (b:=s) rfl rfl (by simp only [List.length_singleton]; omega)) ?_
 refine Rn [1,2,6] ?_
 refine aw rfl rfl (fun w' hm=>⟨?_,hm.b⟩)
 rw [hd,qG]
theorem jC (n:Int) (w:World) (h0:0≤n) (hn:aj n):Calls Tryz.prog 73 #[Vi n] w fun e w'=>e=.returned (.string (ai n))∧Later w w':=by
 obtain ⟨u,rfl⟩:=Int.eq_ofNat_of_zero_le h0
 exact c_DecN u w (by unfold aj at hn; omega)
theorem qL {s:ByteArray} (h:0 < s.size):(bl s).head?=some (ad s 0):=by
 rw [List.head?_eq_getElem?,List.getElem?_eq_getElem (by rw [a8]; exact h),iv]
theorem sd (l:List UInt8) (hd:∀ c∈l,iR c=true):fy l 0 < 10 ^ l.length:=by
 have key:∀ (l:List UInt8) (k a:Nat),(∀ c∈l,iR c=true)→a < 10 ^ k→fy l a < 10 ^ (k+l.length):=by
  intro l
  induction l with
  | nil=>intro k a _ ha; exact ha
  | cons x l ih =>
   intro k a hd ha
   have hx:=of_decide_eq_true (hd x (List.mem_cons_self ..))
   have e:10 ^ (k+1)=10*10 ^ k:=by rw [Nat.pow_succ,Nat.mul_comm]
   have:=ih (k+1) (10*a+(x.toNat - 48)) (fun y hy=>hd y (List.mem_cons_of_mem _ hy)) (by omega)
   rw [List.length_cons,show k+(l.length+1)=k+1+l.length by omega]
   exact this
 simpa using key l 0 0 hd (by decide)
theorem nu (s:ByteArray) (most:Nat) (w:World) (hmo:most≤18) :
  Calls Tryz.prog 141 #[.string s,Vi (most:Nat)] w fun e w'=>e=.returned (.tuple #[Vi (dV s most).1,.bool (dV s most).2])∧Later w w':=by
 refine enter Tryz.func141 rfl Tryz.ntmps141 rfl ?_
 refine Rn [3,1,1,2,5,3,0,53,38,0,21,83,21,63,25,0,21,83,63,21,71] fun b10 hb10 b15 hb15 b16 hb16 b20 hb20=>?_
 refine fV [(b16,false)] rfl rfl rfl rfl rfl (fun hg=>by obtain ⟨hg0,hg1,_⟩:=hg; subst hg0; subst hg1; (try simp only [Qy]); have h1:1 < s.size:=(by have:=of_decide_eq_true hb20.symm; omega); exact bv (j:=0) u9 rfl rfl (by omega)) ?_
 refine fp [(b16,false)] rfl rfl rfl rfl rfl (fun hg=>by obtain ⟨hg0,hg1,_⟩:=hg; subst hg0; subst hg1; (try simp only [Qy]); exact mS rfl rfl) fun b24 hb24=>?_
 refine Rn [81,25,2,10] fun b25 hb25 b26 hb26=>Aw (fun hc26=>?_) fun hc26=>?_
 ·simp only [hb26,hb25,hb24,hb20,hb16,hb15,hb10,Qz,ne_eq] at hc26
  have hbad:¬(fA (bl s)∧s.size≤most):=fun ⟨⟨q1,q2,q3⟩,q4⟩=>by
   have q5:=List.length_pos_iff.2 q1
   rw [a8] at q5 q3
   rcases hc26 with (h | h) | ⟨h,h2⟩
   ·omega
   ·omega
   refine q3 (by omega) ?_
   rw [qL (by omega),s5 (k:=48) |>.1 h2]
  refine Rn [3,1,1,2,6,8] ?_
  refine s7 rfl rfl rfl (fun w' hm=>⟨?_,hm.b⟩)
  unfold dV; rw [if_neg hbad]
 simp only [hb26,hb25,hb24,hb20,hb16,hb15,hb10,Qz,ne_eq] at hc26
 have hs0:s.size≠0:=by omega
 have hsm:s.size≤most:=by omega
 have hlead:1 < s.size→(bl s).head?≠some 48:=fun h1 h2=>by
  rw [qL (by omega)] at h2
  have h3:ad s 0=48:=by simpa using h2
  rcases hc26.2 with h | h
  ·omega
  exact h (by rw [h3]; rfl)
 refine Rn [23,1,2,5,3,1,2,14] ?_
 refine aO (σ:=Nat) (fun k=>k≤s.size∧∀ c∈(bl s).take k,iR c=true) (fun k=>[(0,Value.string s),(6,Vi ((fy ((bl s).take k) 0:Nat):Int)),(7,Vi (k:Nat))]) (fun k=>[]) (fun k=>[(w,fun _=>True)]) (fun k=>s.size - k) (0) (⟨Nat.zero_le _,fun c hc=>by simp at hc⟩) (aC Zu (fun _ h=>h)) ?_
 rintro k ⟨hk,hd⟩
 refine Rn [144] ?_
 have hlt:=sd ((bl s).take k) hd
 have hp18:10 ^ ((bl s).take k).length≤10 ^ 18:=Nat.pow_le_pow_right (by decide) (by rw [List.length_take,a8]; omega)
 have e18:(10:Nat) ^ 18=1000000000000000000:=by decide
 refine Rn [5,3,0,0,53,24,2,12] fun b30 hb30=>Aw (fun hc30=>?_) fun hc30=>?_
 ·have hk1:k < s.size:=by omega
  have hp17:10 ^ ((bl s).take k).length≤10 ^ 17:=Nat.pow_le_pow_right (by decide) (by rw [List.length_take,a8]; omega)
  have e17:(10:Nat) ^ 17=100000000000000000:=by decide
  refine Rn [16,5,14,5,3,0,0] ?_
  refine Xv rfl (bv u9 rfl rfl (hk1)) ?_
  refine Rn [24,0,21,21] fun b36 hb36=>?_
  refine Xi rfl rfl rfl (fun hg0=>by subst hg0; (try simp only [Qy]); exact bv u9 rfl rfl (hk1)) ?_
  refine Rn [63,25,2,10] fun b41 hb41 b42 hb42=>Aw (fun hc42=>?_) fun hc42=>?_
  ·simp only [hb42,hb41,hb36,Qz,ne_eq] at hc42
   have hnd:iR (ad s k)=false:=decide_eq_false (by omega)
   have hbad:¬(fA (bl s)∧s.size≤most):=fun ⟨⟨q1,q2,q3⟩,q4⟩=>by
    have:=q2 (ad s k) (by rw [← iv (by rw [a8]; exact hk1)]; exact List.getElem_mem _)
    rw [hnd] at this; cases this
   refine Rn [3,1,1,2,6,8,15,8,8,15,8] ?_
   refine s7 rfl rfl rfl (fun w' hm=>⟨?_,hm.b⟩)
   unfold dV; rw [if_neg hbad]
  simp only [hb42,hb41,hb36,Qz,ne_eq] at hc42
  have hdg:iR (ad s k)=true:=decide_eq_true (by omega)
  have hrg:=of_decide_eq_true hdg
  have hstep:fy ((bl s).take (k+1)) 0=10*fy ((bl s).take k) 0+((ad s k).toNat - 48):=by rw [List.take_succ_eq_append_getElem (by rw [a8]; exact hk1),mx,iv]
  have hlt8:=(ad s k).toNat_lt
  refine Rn [16,18,0] ?_
  refine Xv rfl (cY (c:=((10*fy ((bl s).take k) 0:Nat):Int)) rfl rfl (by omega) (by omega)) ?_
  refine Rn [0,0] ?_
  refine Xv rfl (bv u9 rfl rfl (hk1)) (Xv rfl (v_subU8 (a:=(ad s k).toNat) (b:=48) rfl rfl hrg.1 (by omega)) (Xv rfl (v_conv64 u5 u3 rfl (by omega)) (Xv rfl (bg (c:=((fy ((bl s).take (k+1)) 0:Nat):Int)) rfl rfl (by rw [hstep]; omega) (by rw [hstep]; omega)) ?_)))
  refine Rn [1,13,27,17,18,0,26,1,13] ?_
  exact aJ (k+1) ⟨by omega,fun c hc=>by rw [List.take_succ_eq_append_getElem (by rw [a8]; exact hk1)] at hc; rcases List.mem_append.1 hc with h | h; (· exact hd c h); rw [List.mem_singleton.1 h,iv]; exact hdg⟩ (by omega) Zu (fun _ h=>h)
 obtain rfl:k=s.size:=by omega
 rw [List.take_of_length_le (by rw [a8]; exact Nat.le_refl _)] at hd
 refine Rn [34,19,19,35,17,3,0,1,1,2,6] ?_
 refine s7 rfl rfl rfl (fun w' hm=>⟨?_,hm.b⟩)
 rw [List.take_of_length_le (by rw [a8]; exact Nat.le_refl _)]
 unfold dV
 rw [if_pos ⟨⟨List.length_pos_iff.1 (by rw [a8]; omega),hd,fun h=>hlead (by rw [a8] at h; exact h)⟩,hsm⟩]
theorem eL (o:Ord) (w:World) :
  Calls Tryz.prog 128 #[.agg o.cells.toArray] w fun e w'=>e=.returned (.bool (bV o))∧Later w w':=by
 refine enter Tryz.func128 rfl Tryz.ntmps128 rfl ?_
 refine Rn [3,36,1,9,1,9,4,7,57,0,22,40,21,67,30,0,22,40,69] fun p1 b6 hb6 b11 hb11 b12 hb12 b16 hb16=>?_
 refine Rn [30,0,22,40,21,67,30,0,22,22,40,69] fun b17 hb17 b22 hb22 b23 hb23 b28 hb28=>?_
 refine Rn [30,0,22,22,40,21,67,30,0,22,22,40,69] fun b29 hb29 b35 hb35 b36 hb36 b41 hb41=>?_
 refine Rn [30,0,22,22,40,21,67,30,0,22,40,69] fun b42 hb42 b48 hb48 b49 hb49 b53 hb53=>?_
 refine Rn [30,0,22,40,21,67,30,0,22,40,69] fun b54 hb54 b59 hb59 b60 hb60 b64 hb64=>?_
 refine Rn [30,0,22,40,67,30,1,2,6] fun b65 hb65 b69 hb69 b70 hb70=>?_
 refine aw rfl rfl (fun w' hm=>⟨?_,hm.b⟩)
 congr 3
 rw [Bool.eq_iff_iff,bB]
 rw [hb70,hb69,hb65,hb64,hb60,hb59,hb54,hb53,hb49,hb48,hb42,hb41,hb36,hb35,hb29,hb28,hb23,hb22,hb17,hb16,hb12,hb11,hb6]
 unfold ej
 simp only [Bool.and_eq_true,decide_eq_true_eq]
 omega
open Go.RowKit Go.PK
theorem fJ {n:Int} (h:aj n):iD (ai n):=bz (Nat.le_trans (br h) (by decide))
theorem recT_sz {s n:Int} (h1:aj s) (h2:aj n):(dD s n).size≤43:=by
 have a:=br h1; have b:=br h2
 unfold dD; rw [ByteArray.size_append,ByteArray.size_append]
 have e:(⟨#[46]⟩:ByteArray).size=1:=rfl
 omega
theorem recT_ok {s n:Int} (h1:aj s) (h2:aj n):iD (dD s n):=bz (Nat.le_trans (recT_sz h1 h2) (by decide))
theorem uf (name:ByteArray) (w:World) (hok:iD name) :
  Calls Tryz.prog 129 #[.string name] w fun e w'=>∃ u,e=.returned (.agg #[.string (⟨#[85,78,72]⟩),u])∧Later w w'∧ab (aP aX) (fun b=>w.heap.size≤b) w' u ([[⟨#[49]⟩],[name,⟨#[68]⟩,⟨#[57,54,65]⟩,⟨#[85,78]⟩]]):=by
 refine enter Tryz.func129 rfl Tryz.ntmps129 rfl ?_
 refine Rn [3,28,9] fun p2=>?_
 refine ac (cs:=[Value.string (⟨#[49]⟩)]) rfl rfl rfl ez gG kA rfl rfl rfl ?_
 intro p3
 refine Xm ?_
 refine ac (cs:=[Value.string (name),Value.string (⟨#[68]⟩),Value.string (⟨#[57,54,65]⟩),Value.string (⟨#[85,78]⟩)]) rfl rfl rfl ez gG kA rfl rfl rfl ?_
 intro p5
 refine ac (cs:=[Value.slice (some ⟨p3,0,none⟩) 1 1,.slice (some ⟨p5,0,none⟩) 4 4]) rfl rfl rfl dd fw rR rfl rfl rfl ?_
 intro p6
 refine Xv rfl (aH (places:=[(0,1),(1,1)]) jE eY Zk rfl rfl) ?_
 refine bX [(p6,_),(p5,_),(p3,_)] rfl rfl rfl rfl bQ rfl rfl ?_
 refine Rn [2,6] ?_
 refine tz (cs:=#[Value.string (⟨#[85,78,72]⟩),.slice (some ⟨p6,0,none⟩) 2 2]) rfl rfl Zh jE rfl bQ (fun w' hm=>⟨_,rfl,hm.b,?_⟩)
 exact (eZ (T:=aP aX) (e:=78) (b:=p6) [[Value.slice (some ⟨p3,0,none⟩) 1 1],[Value.slice (some ⟨p5,0,none⟩) 4 4]] (xs:=[[⟨#[49]⟩],[name,⟨#[68]⟩,⟨#[57,54,65]⟩,⟨#[85,78]⟩]]) hm (by simp) Zh rfl (by simp) ⟨⟨_,rfl,(eZ (T:=aX) (e:=9) (b:=p3) [[Value.string (⟨#[49]⟩)]] (xs:=[⟨#[49]⟩]) hm (by simp) Zh rfl (by simp) ⟨⟨rfl,(bz (by decide))⟩,trivial⟩)⟩,⟨_,rfl,(eZ (T:=aX) (e:=9) (b:=p5) [[Value.string (name)],[Value.string (⟨#[68]⟩)],[Value.string (⟨#[57,54,65]⟩)],[Value.string (⟨#[85,78]⟩)]] (xs:=[name,⟨#[68]⟩,⟨#[57,54,65]⟩,⟨#[85,78]⟩]) hm (by simp) Zh rfl (by simp) ⟨⟨rfl,hok⟩,⟨rfl,(bz (by decide))⟩,⟨rfl,(bz (by decide))⟩,⟨rfl,(bz (by decide))⟩,trivial⟩)⟩,trivial⟩)
theorem kT (tag x y:ByteArray) (w:World) (h1:iD x) (h2:iD y) :
  Calls Tryz.prog 132 #[.string tag,.string x,.string y] w fun e w'=>∃ u,e=.returned (.agg #[.string (tag),u])∧Later w w'∧ab (aP aX) (fun b=>w.heap.size≤b) w' u ([[x,y]]):=by
 refine enter Tryz.func132 rfl Tryz.ntmps132 rfl ?_
 refine Rn [3,28,9,0,0,0] fun p6=>?_
 refine ac (cs:=[Value.string (x),Value.string (y)]) rfl rfl rfl ez gG kA rfl rfl rfl ?_
 intro p10
 refine ac (cs:=[Value.slice (some ⟨p10,0,none⟩) 2 2]) rfl rfl rfl dd fw rR rfl rfl rfl ?_
 intro p11
 refine Xv rfl (aH (places:=[(0,1),(1,1)]) jE eY Zk rfl rfl) ?_
 refine bX [(p11,_),(p10,_)] rfl rfl rfl rfl bQ rfl rfl ?_
 refine Rn [2,6] ?_
 refine tz (cs:=#[Value.string (tag),.slice (some ⟨p11,0,none⟩) 1 1]) rfl rfl Zh jE rfl bQ (fun w' hm=>⟨_,rfl,hm.b,?_⟩)
 exact (eZ (T:=aP aX) (e:=78) (b:=p11) [[Value.slice (some ⟨p10,0,none⟩) 2 2]] (xs:=[[x,y]]) hm (by simp) Zh rfl (by simp) ⟨⟨_,rfl,(eZ (T:=aX) (e:=9) (b:=p10) [[Value.string (x)],[Value.string (y)]] (xs:=[x,y]) hm (by simp) Zh rfl (by simp) ⟨⟨rfl,h1⟩,⟨rfl,h2⟩,trivial⟩)⟩,trivial⟩)
theorem ug {v:Value} {es:List ByteArray} {D:Nat→Prop} (tag:ByteArray) (w:World) (hes:ab aX D w v es) (hn:es.length≤1000) :
  Calls Tryz.prog 130 #[.string tag,v] w fun e w'=>∃ u,e=.returned (.agg #[.string (tag),u])∧Later w w'∧ab (aP aX) (fun b=>w.heap.size≤b) w' u (es.map fun e=>[e]):=by
 obtain ⟨A,cp,rfl,hlc,hmx,_⟩:=id hes
 refine enter Tryz.func130 rfl Tryz.ntmps130 rfl ?_
 refine Rn [3,28,9,0] fun p4=>?_
 refine Xv rfl (aH (places:=[(0,1),(1,1)]) jE eY Zk rfl rfl) ?_
 refine Rn [28,32,2,5,3,1,2,14] fun p5=>?_
 refine qk ((Bk p5 [Value.string tag,au none (0)] 134)::(aA 78 none++[(Bk p4 [Value.string ⟨#[]⟩,.slice none 0 0] 134)])) (List.Sublist.refl _) (fun w0 hm0=>?_)
 refine aO (σ:=Nat×ak×World) (fun x=>x.1≤es.length∧cZ (aP aX) (dC w ((Bk p5 [Value.string tag,au x.2.1 (x.1)] 134)::(aA 78 x.2.1++[(Bk p4 [Value.string ⟨#[]⟩,.slice none 0 0] 134)]))) x.2.2 x.2.1 ((es.take x.1).map fun e=>[e])) (fun x=>[(4,Pt p4),(5,Pt p5),(1,Value.slice A es.length cp),(6,Vi (x.1:Nat))]) (fun x=>(Bk p5 [Value.string tag,au x.2.1 (x.1)] 134)::(aA 78 x.2.1++[(Bk p4 [Value.string ⟨#[]⟩,.slice none 0 0] 134)])) (fun x=>(x.2.2,a7 ((Bk p5 [Value.string tag,au x.2.1 (x.1)] 134)::(aA 78 x.2.1++[(Bk p4 [Value.string ⟨#[]⟩,.slice none 0 0] 134)])))::[(w,fun _=>True)]) (fun x=>es.length - x.1) ((0,none,w0)) (⟨Nat.zero_le _,cZ.nil⟩) (aC Zu (fun _ h=>h)) ?_
 rintro ⟨k,R,ws⟩ ⟨hk,hT⟩
 refine Rn [144] ?_
 dsimp only at hk hT
 have hln:((es.take k).map fun e=>[e]).length=k:=by simp; omega
 refine Rn [5,3,0,0,31,24,2,12] fun b12 hb12=>Aw (fun hc12=>?_) fun hc12=>?_
 ·have hkl:k < es.length:=by omega
  obtain ⟨b0,o0,hA0,_,hc0,hok0⟩:=od hes hkl
  refine Rn [16,5,14] ?_
  refine cL ([(Bk p5 [Value.string tag,au R (k)] 134)]) 10 (.flt 0 (.flt 1 (.flt 2 (.flt 3 (.flt 4 (.flt 5 (.gr 6 (.gr 7 (.gr 8 (.flt 9 .done) .nil) .nil) .nil))))))) (.cons_cons _ (List.nil_sublist _)) Zk Zk ?_
  refine Rn [41,49,44,44] ?_
  refine dq rfl rfl (ae ez gG (congrArg (fun A=>some (Value.slice A es.length cp)) hA0) rfl Zo rfl) (dq rfl rfl (aW u9 rfl rfl (an (List.mem_cons_of_mem _ (.head _)) trivial (by rw [Nat.mul_one]; exact hc0))) ?_)
  refine Rn [42] ?_
  refine ac (cs:=[Value.string es[k]]) rfl rfl rfl ez gG kA rfl rfl rfl ?_
  intro p21
  refine Ze ?_
  refine dK (.cons _ (.cons_cons _ (List.nil_sublist _))) ?_
  refine Rn [42] ?_
  refine ac (cs:=[Value.slice (some ⟨p21,0,none⟩) 1 1]) rfl rfl rfl dd fw rR rfl rfl rfl ?_
  intro p22
  refine Ze ?_
  refine dK (.cons _ (.cons _ (.cons_cons _ (List.nil_sublist _)))) ?_
  refine Rn [42] ?_
  obtain ⟨css,hcl,hrow,hrd⟩:=hT
  rw [hln] at hcl hrow
  refine be (e:=78) [(Bk p22 [Value.slice (some ⟨p21,0,none⟩) 1 1] 78),(Bk p21 [Value.string es[k]] 9),(Bk p5 [Value.string tag,au R (k)] 134)] (l2:=[(Bk p4 [Value.string ⟨#[]⟩,.slice none 0 0] 134)]) R (len:=k) (xs:=css.flatten) rfl rfl rfl rfl rfl hrow dd ap78 rfl rfl (m:=1) (news:=[Value.slice (some ⟨p21,0,none⟩) 1 1]) (fun i hi=>aa (vs:=[Value.slice (some ⟨p21,0,none⟩) 1 1]) (.head _) (by rw [Nat.zero_add]; exact List.getElem?_eq_getElem hi)) rfl Zx (by omega) fun R' hR'=>?_
  refine Ze ?_
  refine dK (.cons _ (.cons _ (.cons_cons _ (List.nil_sublist _)))) ?_
  refine Rn [41,56] ?_
  refine aG (cs:=[Value.string tag,au R k]) (off:=1) [(Bk p22 [Value.slice (some ⟨p21,0,none⟩) 1 1] 78),(Bk p21 [Value.string es[k]] 9)] rfl rfl rfl rfl tK rfl (by show 2≤2; decide) ?_
  refine Rn [13,27,17,18,0,26,1,13] ?_
  have hsub:((Bk p5 [Value.string tag,au R' (k+1)] 134)::(aA 78 R'++[(Bk p4 [Value.string ⟨#[]⟩,.slice none 0 0] 134)])).Sublist ((Bk p22 [Value.slice (some ⟨p21,0,none⟩) 1 1] 78)::(Bk p21 [Value.string es[k]] 9)::((Bk p5 [Value.string tag,au R' (k+1)] 134)::(aA 78 R'++[(Bk p4 [Value.string ⟨#[]⟩,.slice none 0 0] 134)]))):=Ls.trans Ls
  refine qj ((Bk p5 [Value.string tag,au R' (k+1)] 134)::(aA 78 R'++[(Bk p4 [Value.string ⟨#[]⟩,.slice none 0 0] 134)])) hsub (fun w0 hm0=>?_)
  have i1:ab aX (dC w ((Bk p5 [Value.string tag,au R' (k+1)] 134)::(aA 78 R'++[(Bk p4 [Value.string ⟨#[]⟩,.slice none 0 0] 134)]))) w0 (.slice (some ⟨p21,0,none⟩) 1 1) [es[k]]:=gQ (e:=9) [[Value.string es[k]]] hm0 (.tail _ (.head _)) rfl (by simp) ⟨hm0.newer (p:=(Bk p21 [Value.string es[k]] 9)) (by simp) (.tail _ (.head _)),hm0.notIn (l1:=[(Bk p22 [Value.slice (some ⟨p21,0,none⟩) 1 1] 78),(Bk p21 [Value.string es[k]] 9)]) (List.Sublist.refl _) (.tail _ (.head _))⟩ ⟨⟨rfl,hok0⟩,trivial⟩
  have hT':=nV (T:=aP aX) (D:=dC w ((Bk p5 [Value.string tag,au R' (k+1)] 134)::(aA 78 R'++[(Bk p4 [Value.string ⟨#[]⟩,.slice none 0 0] 134)]))) (ws:=w0) (x:=[es[k]]) hln hcl (fun j h1 h2=>(aP aX).keep (hrd j h1 h2) (aV.frz hm0 hsub (by simp))) hR' ⟨_,rfl,i1⟩
  exact aJ (x:=(k,R,ws)) (μ:=fun q:Nat×ak×World=>es.length - q.1) (k+1,R',w0) ⟨by dsimp only; omega,by dsimp only; rw [List.take_succ_eq_append_getElem hkl,List.map_append]; exact hT'⟩ (by simp only; omega) Zu (fun w1 h=>h.less (List.Sublist.refl _) (fun q hq=>by simp at hq ⊢; rcases hq with h | h; (· exact .inl h); simp [h]))
 obtain rfl:k=es.length:=by omega
 rw [List.take_length] at hT hln
 refine Rn [34,19,19,35,17,3,39] ?_
 refine bX ((Bk p5 [Value.string tag,au R (es.length)] 134)::aA 78 R) rfl rfl rfl rfl bQ rfl rfl ?_
 refine Rn [2,6] ?_
 refine tz rfl rfl (List.mem_cons_of_mem _ (List.mem_append_right _ (.head _))) jE rfl bQ (fun w' hm=>⟨_,rfl,hm.b,?_⟩)
 exact (hT.keep (aV.frz hm (List.Sublist.refl _) (.head _))).rd (e:=78) hm (fun q hq=>List.mem_cons_of_mem _ (List.mem_append_left _ hq)) (fun _ h=>h.1) (fun q hq=>hm.newer (by simp) (List.mem_cons_of_mem _ (List.mem_append_left _ hq))) hln.symm
theorem c_line (n:Int) (r:Int×Int) (w:World) (hn:0≤n∧aj n) (h1:0≤r.1∧aj r.1) (h2:0≤r.2∧aj r.2) :
  Calls Tryz.prog 131 #[Vi n,.agg #[Vi r.1,Vi r.2]] w fun e w'=>∃ u,e=.returned (.agg #[.string (⟨#[76,73,78]⟩),u])∧Later w w'∧ab (aP aX) (fun b=>w.heap.size≤b) w' u ([[ai n],[⟨#[]⟩],[dD r.1 r.2,⟨#[83,82,86]⟩]]):=by
 refine enter Tryz.func131 rfl Tryz.ntmps131 rfl ?_
 refine Rn [3,36,28,2,5] fun p3 p4=>?_
 refine rM 15 (.flt 0 (.flt 1 (.flt 4 (.flt 5 (.flt 6 (.flt 7 (.flt 8 (.flt 9 (.flt 10 (.flt 11 (.gr 2 (.gr 3 (.gr 12 (.gr 13 (.flt 14 .done) .nil) .nil) (.gr 12 (.gr 3 (.gr 13 (.flt 14 .done) .nil) .nil) .nil)) (.gr 3 (.gr 2 (.gr 12 (.gr 13 (.flt 14 .done) .nil) .nil) (.gr 12 (.gr 2 (.gr 13 (.flt 14 .done) .nil) .nil) .nil)) (.gr 12 (.gr 2 (.gr 3 (.gr 13 (.flt 14 .done) .nil) .nil) (.gr 3 (.gr 2 (.gr 13 (.flt 14 .done) .nil) .nil) .nil)) .nil))))))))))))) Zk Zk ?_
 repeat' first
 |with_reducible refine t_flt (Q:=fun _ _ _=>False) ?_
 |with_reducible refine t_gr (Q:=fun _ _ _=>False) ?_ ?_
 |(with_reducible refine oS ?_
   first
   |exact t_nil
   |(refine vh ?_
     first
     | refine bX (cs:=#[Value.string ⟨#[]⟩,.slice none 0 0]) (e:=134) [(p18,_),(p7,_),(p8,_),(p17,_)] rfl rfl rfl rfl bQ rfl rfl ?_
     | refine bX (cs:=#[Value.string ⟨#[]⟩,.slice none 0 0]) (e:=134) [(p18,_),(p7,_),(p17,_),(p8,_)] rfl rfl rfl rfl bQ rfl rfl ?_
     | refine bX (cs:=#[Value.string ⟨#[]⟩,.slice none 0 0]) (e:=134) [(p18,_),(p8,_),(p7,_),(p17,_)] rfl rfl rfl rfl bQ rfl rfl ?_
     | refine bX (cs:=#[Value.string ⟨#[]⟩,.slice none 0 0]) (e:=134) [(p18,_),(p8,_),(p17,_),(p7,_)] rfl rfl rfl rfl bQ rfl rfl ?_
     | refine bX (cs:=#[Value.string ⟨#[]⟩,.slice none 0 0]) (e:=134) [(p18,_),(p17,_),(p7,_),(p8,_)] rfl rfl rfl rfl bQ rfl rfl ?_
     | refine bX (cs:=#[Value.string ⟨#[]⟩,.slice none 0 0]) (e:=134) [(p18,_),(p17,_),(p8,_),(p7,_)] rfl rfl rfl rfl bQ rfl rfl ?_
     refine Rn [2,6] ?_
     refine tz (cs:=#[Value.string (⟨#[76,73,78]⟩),.slice (some ⟨p18,0,none⟩) 3 3]) rfl rfl Zh jE rfl bQ (fun w' hm=>⟨_,rfl,hm.b,?_⟩)
     exact (eZ (T:=aP aX) (e:=78) (b:=p18) [[Value.slice (some ⟨p7,0,none⟩) 1 1],[Value.slice (some ⟨p8,0,none⟩) 1 1],[Value.slice (some ⟨p17,0,none⟩) 2 2]] (xs:=[[ai n],[⟨#[]⟩],[dD r.1 r.2,⟨#[83,82,86]⟩]]) hm (by simp) Zh rfl (by simp) ⟨⟨_,rfl,(eZ (T:=aX) (e:=9) (b:=p7) [[Value.string (ai n)]] (xs:=[ai n]) hm (by simp) Zh rfl (by simp) ⟨⟨rfl,fJ hn.2⟩,trivial⟩)⟩,⟨_,rfl,(eZ (T:=aX) (e:=9) (b:=p8) [[Value.string (⟨#[]⟩)]] (xs:=[⟨#[]⟩]) hm (by simp) Zh rfl (by simp) ⟨⟨rfl,(bz (by decide))⟩,trivial⟩)⟩,⟨_,rfl,(eZ (T:=aX) (e:=9) (b:=p17) [[Value.string (dD r.1 r.2)],[Value.string (⟨#[83,82,86]⟩)]] (xs:=[dD r.1 r.2,⟨#[83,82,86]⟩]) hm (by simp) Zh rfl (by simp) ⟨⟨rfl,recT_ok h1.2 h2.2⟩,⟨rfl,(bz (by decide))⟩,trivial⟩)⟩,trivial⟩)))
 |(refine oB 5 ?_
   first
   |(refine oI 0 ?_
     refine Rn [0,13] ?_)
   |(refine oI 1 ?_
     refine Xc rfl Tryz.func73 rfl (fun w1 hw1=>jC n w1 hn.1 hn.2) ?_
     refine Ze ?_)
   |(refine oI 2 ?_
     refine ac (cs:=[Value.string (ai n)]) rfl rfl rfl ez gG kA rfl rfl rfl ?_
     intro p7
     refine Ze ?_)
   |(refine oI 3 ?_
     refine ac (cs:=[Value.string (⟨#[]⟩)]) rfl rfl rfl ez gG kA rfl rfl rfl ?_
     intro p8
     refine Ze ?_)
   |(refine oI 4 ?_
     refine Rn [4,13] ?_)
   |(refine oI 5 ?_
     refine Rn [7,13] ?_))
 |(refine oB 11 ?_
   first
   |(refine oI 6 ?_
     refine Xc rfl Tryz.func73 rfl (fun w1 hw1=>jC r.1 w1 h1.1 h1.2) ?_
     refine Ze ?_)
   |(refine oI 7 ?_
     refine Xv rfl (cK rfl rfl (by have:=br h1.2; show _+1≤_; omega)) (Ze ?_))
   |(refine oI 8 ?_
     refine Rn [4,13] ?_)
   |(refine oI 9 ?_
     refine Rn [7,13] ?_)
   |(refine oI 10 ?_
     refine Xc rfl Tryz.func73 rfl (fun w1 hw1=>jC r.2 w1 h2.1 h2.2) ?_
     refine Ze ?_)
   |(refine oI 11 ?_
     refine Xv rfl (cK rfl rfl (by have:=br h1.2; have:=br h2.2; rw [ByteArray.size_append]; show (_+1)+_≤_; omega)) (Ze ?_)))
 |(refine oI 12 ?_
   refine ac (cs:=[Value.string (dD r.1 r.2),Value.string (⟨#[83,82,86]⟩)]) rfl rfl rfl ez gG kA rfl rfl rfl ?_
   intro p17
   refine Ze ?_)
 |(refine oI 13 ?_
   refine ac (cs:=[Value.slice (some ⟨p7,0,none⟩) 1 1,.slice (some ⟨p8,0,none⟩) 1 1,.slice (some ⟨p17,0,none⟩) 2 2]) rfl rfl rfl dd fw rR rfl rfl rfl ?_
   intro p18
   refine Ze ?_)
 |(refine oI 14 ?_
   refine Xv rfl (aH (places:=[(0,1),(1,1)]) jE eY Zk rfl rfl) (Ze ?_))
open Go.RowKit Go.PK
theorem vz {o:Ord} {w w':World} {own:List (Nat×Obj)} {ro:List av} {p:Nat} {A8:Option Addr} {c8:Nat} {A13:Option Addr} {c13:Nat} {A16:Option Addr} {c16:Nat} {A20:Option Addr} {c20:Nat} {A24:Option Addr} {c24:Nat} {A28:Option Addr} {c28:Nat} {A30:Option Addr} {c30:Nat} (hm:Mem w' own ro) (hp:(Bk p (([[Value.string (⟨#[85,78,72]⟩),.slice A8 2 c8],[Value.string (⟨#[66,71,77]⟩),.slice A13 2 c13],[Value.string (⟨#[76,73,78]⟩),.slice A16 3 c16],[Value.string (⟨#[81,84,89]⟩),.slice A20 1 c20],[Value.string (⟨#[80,82,73]⟩),.slice A24 1 c24],[Value.string (⟨#[82,70,70]⟩),.slice A28 1 c28],[Value.string (⟨#[85,78,84]⟩),.slice A30 2 c30]]:List (List Value)).flatten) 134)∈own) (hw:bV o=true) (hwr:ej o) (hl:Later w w') (h0:(w,fun _=>True)∈ro) (h8:ab (aP aX) (dC w own) w' (.slice A8 2 c8) [[⟨#[49]⟩],[⟨#[79,82,68,69,82,83]⟩,⟨#[68]⟩,⟨#[57,54,65]⟩,⟨#[85,78]⟩]]) (h13:ab (aP aX) (dC w own) w' (.slice A13 2 c13) [[⟨#[50,50,48]⟩],[ai o.id]]) (h16:ab (aP aX) (dC w own) w' (.slice A16 3 c16) [[ai 1],[⟨#[]⟩],[dD o.src o.num,⟨#[83,82,86]⟩]]) (h20:ab (aP aX) (dC w own) w' (.slice A20 1 c20) [[⟨#[50,49]⟩,ai o.copies]]) (h24:ab (aP aX) (dC w own) w' (.slice A24 1 c24) [[⟨#[65,65,65]⟩,ai o.price]]) (h28:ab (aP aX) (dC w own) w' (.slice A28 1 c28) [[⟨#[66,70,78]⟩,ai o.fund]]) (h30:ab (aP aX) (dC w own) w' (.slice A30 2 c30) [[⟨#[55]⟩],[⟨#[49]⟩]]) :
  ∃ v,Ending.returned (.slice (some ⟨p,0,none⟩) 7 7)=.returned v∧Later w w'∧ab aZ (fun b=>w.heap.size≤b) w' v (aU o)∧((aU o).length=0→v=.slice none 0 0):=by
 rw [show aU o=bT o from by unfold aU; rw [if_pos hw,eq (gR hwr)]]
 exact ⟨_,rfl,hl,RdAll.rd (e:=134) (css:=[[Value.string (⟨#[85,78,72]⟩),.slice A8 2 c8],[Value.string (⟨#[66,71,77]⟩),.slice A13 2 c13],[Value.string (⟨#[76,73,78]⟩),.slice A16 3 c16],[Value.string (⟨#[81,84,89]⟩),.slice A20 1 c20],[Value.string (⟨#[80,82,73]⟩),.slice A24 1 c24],[Value.string (⟨#[82,70,70]⟩),.slice A28 1 c28],[Value.string (⟨#[85,78,84]⟩),.slice A30 2 c30]]) (xs:=bT o) (.cons (bk (x:=⟨⟨#[85,78,72]⟩,[[⟨#[49]⟩],[⟨#[79,82,68,69,82,83]⟩,⟨#[68]⟩,⟨#[57,54,65]⟩,⟨#[85,78]⟩]]⟩) rfl (show (3:Nat)≤9223372036854775807 by decide) h8) (.cons (bk (x:=⟨⟨#[66,71,77]⟩,[[⟨#[50,50,48]⟩],[ai o.id]]⟩) rfl (show (3:Nat)≤9223372036854775807 by decide) h13) (.cons (bk (x:=⟨⟨#[76,73,78]⟩,[[ai 1],[⟨#[]⟩],[dD o.src o.num,⟨#[83,82,86]⟩]]⟩) rfl (show (3:Nat)≤9223372036854775807 by decide) h16) (.cons (bk (x:=⟨⟨#[81,84,89]⟩,[[⟨#[50,49]⟩,ai o.copies]]⟩) rfl (show (3:Nat)≤9223372036854775807 by decide) h20) (.cons (bk (x:=⟨⟨#[80,82,73]⟩,[[⟨#[65,65,65]⟩,ai o.price]]⟩) rfl (show (3:Nat)≤9223372036854775807 by decide) h24) (.cons (bk (x:=⟨⟨#[82,70,70]⟩,[[⟨#[66,70,78]⟩,ai o.fund]]⟩) rfl (show (3:Nat)≤9223372036854775807 by decide) h28) (.cons (bk (x:=⟨⟨#[85,78,84]⟩,[[⟨#[55]⟩],[⟨#[49]⟩]]⟩) rfl (show (3:Nat)≤9223372036854775807 by decide) h30) (.nil)))))))) hm hp h0 rfl (show (7:Nat)≤maxLen by decide),fun h=>absurd (show (7:Nat)=0 from h) (by decide)⟩
theorem ow (o:Ord) (w:World) (hok:o.ok) :
  Calls Tryz.prog 84 #[.agg o.cells.toArray] w fun e w'=>∃ v,e=.returned v∧Later w w'∧ab aZ (fun b=>w.heap.size≤b) w' v (aU o)∧((aU o).length=0→v=.slice none 0 0):=by
 have hoi:aj o.id∧aj o.fund∧aj o.src∧aj o.num∧aj o.copies∧aj o.price:=hok
 obtain ⟨i1,i2,i3,i4,i5,i6⟩:=hoi
 refine enter Tryz.func84 rfl Tryz.ntmps84 rfl ?_
 refine Rn [3,36,1,9,39] fun p1=>?_
 refine Xh rfl Tryz.func128 rfl (fun w1 hw1=>eL o w1) fun b5 hb5=>?_
 refine Rn [1,2,5,3,0,43,2,10] fun b7 hb7=>Aw (fun hc7=>?_) fun hc7=>?_
 ·have hw:bV o=false:=by rw [hb7,hb5] at hc7; simpa using hc7
  refine Rn [3,1,2,6,8] ?_
  refine aw rfl rfl (fun w' hm=>?_)
  rw [show aU o=[] from by unfold aU; rw [hw]; rfl]
  exact ⟨_,rfl,hm.b,aT,fun _=>rfl⟩
 have hw:bV o=true:=by rw [hb7,hb5] at hc7; simpa using hc7
 have hwr:=(bB o).1 hw
 obtain ⟨n1,n2,n3,n4,n5,n6⟩:=gR hwr
 have sg8:=fun w1=>(uf ⟨#[79,82,68,69,82,83]⟩ w1 (bz (by decide))).mono (R':=fun e w'=>∃ v,e=.returned v∧Later w1 w'∧rY ⟨#[85,78,72]⟩ 2 [[⟨#[49]⟩],[⟨#[79,82,68,69,82,83]⟩,⟨#[68]⟩,⟨#[57,54,65]⟩,⟨#[85,78]⟩]] v w1 w') fun e w2 ⟨u,h1,h2,h3⟩=>dh h1 h2 h3
 have sg13:∀ {own:List (Nat×Obj)} {ro:List av} {p:Nat} (w1:World) (hw1:Mem w1 own ro) (hp:(Bk p ([Value.string (⟨#[50,50,48]⟩),Value.string (ai o.id)]) 9)∈own),Calls Tryz.prog 130 #[.string ⟨#[66,71,77]⟩,.slice (some ⟨p,0,none⟩) 2 2] w1 fun e w'=>∃ v,e=.returned v∧Later w1 w'∧rY ⟨#[66,71,77]⟩ 2 [[⟨#[50,50,48]⟩],[ai o.id]] v w1 w':=fun {own ro p} w1 hw1 hp=>(ug (es:=[⟨#[50,50,48]⟩,ai o.id]) (D:=fun _=>True) ⟨#[66,71,77]⟩ w1 (gQ (T:=aX) (D:=fun _=>True) (e:=9) (b:=p) [[Value.string (⟨#[50,50,48]⟩)],[Value.string (ai o.id)]] (xs:=[⟨#[50,50,48]⟩,ai o.id]) hw1 hp rfl (by simp) trivial ⟨⟨rfl,(bz (by decide))⟩,⟨rfl,fJ i1⟩,trivial⟩) (by simp)).mono fun e w2 ⟨u,h1,h2,h3⟩=>dh h1 h2 h3
 have sg16:=fun w1=>(c_line 1 (o.src,o.num) w1 ⟨by decide,by unfold aj; decide⟩ ⟨n3,i3⟩ ⟨n4,i4⟩).mono (R':=fun e w'=>∃ v,e=.returned v∧Later w1 w'∧rY ⟨#[76,73,78]⟩ 3 [[ai 1],[⟨#[]⟩],[dD o.src o.num,⟨#[83,82,86]⟩]] v w1 w') fun e w2 ⟨u,h1,h2,h3⟩=>dh h1 h2 h3
 have sg20:=fun w1=>(kT ⟨#[81,84,89]⟩ ⟨#[50,49]⟩ (ai o.copies) w1 (bz (by decide)) (fJ i5)).mono (R':=fun e w'=>∃ v,e=.returned v∧Later w1 w'∧rY ⟨#[81,84,89]⟩ 1 [[⟨#[50,49]⟩,ai o.copies]] v w1 w') fun e w2 ⟨u,h1,h2,h3⟩=>dh h1 h2 h3
 have sg24:=fun w1=>(kT ⟨#[80,82,73]⟩ ⟨#[65,65,65]⟩ (ai o.price) w1 (bz (by decide)) (fJ i6)).mono (R':=fun e w'=>∃ v,e=.returned v∧Later w1 w'∧rY ⟨#[80,82,73]⟩ 1 [[⟨#[65,65,65]⟩,ai o.price]] v w1 w') fun e w2 ⟨u,h1,h2,h3⟩=>dh h1 h2 h3
 have sg28:=fun w1=>(kT ⟨#[82,70,70]⟩ ⟨#[66,70,78]⟩ (ai o.fund) w1 (bz (by decide)) (fJ i2)).mono (R':=fun e w'=>∃ v,e=.returned v∧Later w1 w'∧rY ⟨#[82,70,70]⟩ 1 [[⟨#[66,70,78]⟩,ai o.fund]] v w1 w') fun e w2 ⟨u,h1,h2,h3⟩=>dh h1 h2 h3
 have sg30:∀ {own:List (Nat×Obj)} {ro:List av} {p:Nat} (w1:World) (hw1:Mem w1 own ro) (hp:(Bk p ([Value.string (⟨#[55]⟩),Value.string (⟨#[49]⟩)]) 9)∈own),Calls Tryz.prog 130 #[.string ⟨#[85,78,84]⟩,.slice (some ⟨p,0,none⟩) 2 2] w1 fun e w'=>∃ v,e=.returned v∧Later w1 w'∧rY ⟨#[85,78,84]⟩ 2 [[⟨#[55]⟩],[⟨#[49]⟩]] v w1 w':=fun {own ro p} w1 hw1 hp=>(ug (es:=[⟨#[55]⟩,⟨#[49]⟩]) (D:=fun _=>True) ⟨#[85,78,84]⟩ w1 (gQ (T:=aX) (D:=fun _=>True) (e:=9) (b:=p) [[Value.string (⟨#[55]⟩)],[Value.string (⟨#[49]⟩)]] (xs:=[⟨#[55]⟩,⟨#[49]⟩]) hw1 hp rfl (by simp) trivial ⟨⟨rfl,(bz (by decide))⟩,⟨rfl,(bz (by decide))⟩,trivial⟩) (by simp)).mono fun e w2 ⟨u,h1,h2,h3⟩=>dh h1 h2 h3
 refine Rn [16,5] ?_
 refine rM 25 (.flt 1 (.flt 2 (.flt 6 (.flt 7 (.flt 9 (.flt 10 (.flt 13 (.flt 14 (.flt 17 (.flt 18 (.gr 0 (.flt 3 (.gr 4 (.gr 5 (.gr 8 (.flt 11 (.gr 12 (.flt 15 (.gr 16 (.flt 19 (.gr 20 (.gr 21 (.gr 22 (.gr 23 (.flt 24 .done) .nil) .nil) .nil) (.gr 21 (.gr 20 (.gr 22 (.gr 23 (.flt 24 .done) .nil) .nil) .nil) .nil))) (.gr 21 (.gr 16 (.flt 19 (.gr 20 (.gr 22 (.gr 23 (.flt 24 .done) .nil) .nil) .nil)) .nil) .nil))) (.gr 21 (.gr 12 (.flt 15 (.gr 16 (.flt 19 (.gr 20 (.gr 22 (.gr 23 (.flt 24 .done) .nil) .nil) .nil)) .nil)) .nil) .nil))) (.gr 21 (.gr 8 (.flt 11 (.gr 12 (.flt 15 (.gr 16 (.flt 19 (.gr 20 (.gr 22 (.gr 23 (.flt 24 .done) .nil) .nil) .nil)) .nil)) .nil)) .nil) .nil)) (.gr 21 (.gr 5 (.gr 8 (.flt 11 (.gr 12 (.flt 15 (.gr 16 (.flt 19 (.gr 20 (.gr 22 (.gr 23 (.flt 24 .done) .nil) .nil) .nil)) .nil)) .nil)) .nil) .nil) .nil)) (.gr 21 (.gr 4 (.gr 5 (.gr 8 (.flt 11 (.gr 12 (.flt 15 (.gr 16 (.flt 19 (.gr 20 (.gr 22 (.gr 23 (.flt 24 .done) .nil) .nil) .nil)) .nil)) .nil)) .nil) .nil) .nil) .nil))) (.gr 21 (.gr 0 (.flt 3 (.gr 4 (.gr 5 (.gr 8 (.flt 11 (.gr 12 (.flt 15 (.gr 16 (.flt 19 (.gr 20 (.gr 22 (.gr 23 (.flt 24 .done) .nil) .nil) .nil)) .nil)) .nil)) .nil) .nil) .nil)) .nil) .nil)))))))))))) Zk Zk ?_
 repeat' first
 |with_reducible refine t_flt (Q:=fun _ _ _=>False) ?_
 |with_reducible refine t_gr (Q:=fun _ _ _=>False) ?_ ?_
 |(with_reducible refine oS ?_
   first
   |exact t_nil
   |(refine vh ?_
     refine Rn [2,6] ?_
     exact aw rfl rfl (fun w' hm=>vz hm (.head _) hw hwr hm.b Zh (hs8.keep (aV.made hm Zh hm8 hm8.b.size)) (hs13.keep (aV.made hm Zh hm13 hm13.b.size)) (hs16.keep (aV.made hm Zh hm16 hm16.b.size)) (hs20.keep (aV.made hm Zh hm20 hm20.b.size)) (hs24.keep (aV.made hm Zh hm24 hm24.b.size)) (hs28.keep (aV.made hm Zh hm28 hm28.b.size)) (hs30.keep (aV.made hm Zh hm30 hm30.b.size)))))
 |(refine oB 5 ?_
   first
   |(refine oI 0 ?_
     refine Xd rfl Tryz.func129 rfl (fun w1 hw1=>sg8 w1) fun v8 wa8 wb8 hm8 hl8 hR8=>?_
     obtain ⟨A8,c8,rfl,hs8⟩:=hR8
     refine Ze ?_)
   |(refine oI 1 ?_
     refine Rn [4,13] ?_)
   |(refine oI 2 ?_
     refine Rn [7,13] ?_)
   |(refine oI 3 ?_
     refine Xc rfl Tryz.func73 rfl (fun w1 hw1=>jC o.id w1 n1 i1) ?_
     refine Ze ?_)
   |(refine oI 4 ?_
     refine ac (cs:=[Value.string (⟨#[50,50,48]⟩),Value.string (ai o.id)]) rfl rfl rfl ez gG kA rfl rfl rfl ?_
     intro p12
     refine Ze ?_)
   |(refine oI 5 ?_
     refine Xd rfl Tryz.func130 rfl (fun w1 hw1=>sg13 w1 hw1 Zh) fun v13 wa13 wb13 hm13 hl13 hR13=>?_
     obtain ⟨A13,c13,rfl,hs13⟩:=hR13
     refine Ze ?_))
 |(refine oB 11 ?_
   first
   |(refine oI 6 ?_
     refine Rn [4,13] ?_)
   |(refine oI 7 ?_
     refine Xv rfl (bj (vs:=[Vi o.src,Vi o.num]) l9 rfl iL rfl (fun j hj=>aa (vs:=o.cells) Zh (by match j,hj with | 0,_=>rfl | 1,_=>rfl))) (Ze ?_))
   |(refine oI 8 ?_
     refine Xd rfl Tryz.func131 rfl (fun w1 hw1=>sg16 w1) fun v16 wa16 wb16 hm16 hl16 hR16=>?_
     obtain ⟨A16,c16,rfl,hs16⟩:=hR16
     refine Ze ?_)
   |(refine oI 9 ?_
     refine Rn [4,13] ?_)
   |(refine oI 10 ?_
     refine Rn [7,13] ?_)
   |(refine oI 11 ?_
     refine Xc rfl Tryz.func73 rfl (fun w1 hw1=>jC o.copies w1 n5 i5) ?_
     refine Ze ?_))
 |(refine oB 17 ?_
   first
   |(refine oI 12 ?_
     refine Xd rfl Tryz.func132 rfl (fun w1 hw1=>sg20 w1) fun v20 wa20 wb20 hm20 hl20 hR20=>?_
     obtain ⟨A20,c20,rfl,hs20⟩:=hR20
     refine Ze ?_)
   |(refine oI 13 ?_
     refine Rn [4,13] ?_)
   |(refine oI 14 ?_
     refine Rn [7,13] ?_)
   |(refine oI 15 ?_
     refine Xc rfl Tryz.func73 rfl (fun w1 hw1=>jC o.price w1 n6 i6) ?_
     refine Ze ?_)
   |(refine oI 16 ?_
     refine Xd rfl Tryz.func132 rfl (fun w1 hw1=>sg24 w1) fun v24 wa24 wb24 hm24 hl24 hR24=>?_
     obtain ⟨A24,c24,rfl,hs24⟩:=hR24
     refine Ze ?_)
   |(refine oI 17 ?_
     refine Rn [4,13] ?_))
 |(refine oB 23 ?_
   first
   |(refine oI 18 ?_
     refine Rn [7,13] ?_)
   |(refine oI 19 ?_
     refine Xc rfl Tryz.func73 rfl (fun w1 hw1=>jC o.fund w1 n2 i2) ?_
     refine Ze ?_)
   |(refine oI 20 ?_
     refine Xd rfl Tryz.func132 rfl (fun w1 hw1=>sg28 w1) fun v28 wa28 wb28 hm28 hl28 hR28=>?_
     obtain ⟨A28,c28,rfl,hs28⟩:=hR28
     refine Ze ?_)
   |(refine oI 21 ?_
     refine ac (cs:=[Value.string (⟨#[55]⟩),Value.string (⟨#[49]⟩)]) rfl rfl rfl ez gG kA rfl rfl rfl ?_
     intro p29
     refine Ze ?_)
   |(refine oI 22 ?_
     refine Xd rfl Tryz.func130 rfl (fun w1 hw1=>sg30 w1 hw1 Zh) fun v30 wa30 wb30 hm30 hl30 hR30=>?_
     obtain ⟨A30,c30,rfl,hs30⟩:=hR30
     refine Ze ?_)
   |(refine oI 23 ?_
     refine ac (cs:=([[Value.string (⟨#[85,78,72]⟩),.slice A8 2 c8],[Value.string (⟨#[66,71,77]⟩),.slice A13 2 c13],[Value.string (⟨#[76,73,78]⟩),.slice A16 3 c16],[Value.string (⟨#[81,84,89]⟩),.slice A20 1 c20],[Value.string (⟨#[80,82,73]⟩),.slice A24 1 c24],[Value.string (⟨#[82,70,70]⟩),.slice A28 1 c28],[Value.string (⟨#[85,78,84]⟩),.slice A30 2 c30]]:List (List Value)).flatten) rfl rfl rfl jH bQ eY rfl rfl rfl ?_
     intro p31
     refine Ze ?_))
 |(refine oI 24 ?_
   refine Rn [1,13] ?_)
open Go.RowKit Go.PK
theorem eG {v:Value} {l:List Seg} {D:Nat→Prop} (n e c:Nat) (w:World) (hl:ab aZ D w v l) :
  Calls Tryz.prog 109 #[v,Vi (n:Nat),Vi (e:Nat),Vi (c:Nat)] w fun ee w'=>ee=.returned (.string (kJ l n e c))∧Later w w':=by
 obtain ⟨A,cp,rfl,hlc,hmx,_⟩:=id hl
 obtain ⟨sb,so,EA,ec,hS⟩:=kg hl n
 obtain ⟨eb,eo,FA,fc,hE⟩:=kh (K:=n < l.length) (fun h=>(hS h).2.2.2.2.2) e
 refine enter Tryz.func109 rfl Tryz.ntmps109 rfl ?_
 refine Rn [3,1,2,5,3,0,0,31,57,0,21,21,21] fun b12 hb12=>?_
 refine Xi rfl rfl rfl (fun hg0=>by subst hg0; (try simp only [Qy]); have h1:n < l.length:=(by have h0:=hb12.symm; simp only [decide_eq_false_iff_not] at h0; omega); exact ae jH bQ (congrArg (fun A=>some (Value.slice A l.length cp)) (hS h1).1) rfl (h1) rfl) ?_
 refine Rn [22] ?_
 refine Xi rfl rfl rfl (fun hg0=>by subst hg0; (try simp only [Qy]); have h1:n < l.length:=(by have h0:=hb12.symm; simp only [decide_eq_false_iff_not] at h0; omega); exact aW dd rfl rfl (an (.head _) trivial (hS h1).2.2.2.1)) ?_
 refine Rn [61,69,25,0,21,21,21] fun b21 hb21 b22 hb22=>?_
 refine Xi rfl rfl rfl (fun hg0=>by subst hg0; (try simp only [Qy]); have h12:n < l.length∧e < (bw l n).els.length:=(by have h0:=hb22.symm; simp only [hb12,hb21,Bool.or_eq_false_iff,decide_eq_false_iff_not] at h0; omega); exact ae jH bQ (congrArg (fun A=>some (Value.slice A l.length cp)) (hS h12.1).1) rfl (h12.1) rfl) ?_
 refine Rn [22] ?_
 refine Xi rfl rfl rfl (fun hg0=>by subst hg0; (try simp only [Qy]); have h12:n < l.length∧e < (bw l n).els.length:=(by have h0:=hb22.symm; simp only [hb12,hb21,Bool.or_eq_false_iff,decide_eq_false_iff_not] at h0; omega); exact aW dd rfl rfl (an (.head _) trivial (hS h12.1).2.2.2.1)) (Xg ?_)
 refine Xi rfl rfl rfl (fun hg0=>by subst hg0; (try simp only [Qy]); have h12:n < l.length∧e < (bw l n).els.length:=(by have h0:=hb22.symm; simp only [hb12,hb21,Bool.or_eq_false_iff,decide_eq_false_iff_not] at h0; omega); exact ae dd fw (congrArg (fun A=>some (Value.slice A (bw l n).els.length ec)) (hE h12.1 h12.2).1) rfl (h12.2) rfl) (Xi rfl rfl rfl (fun hg0=>by subst hg0; (try simp only [Qy]); have h12:n < l.length∧e < (bw l n).els.length:=(by have h0:=hb22.symm; simp only [hb12,hb21,Bool.or_eq_false_iff,decide_eq_false_iff_not] at h0; omega); exact aW ez rfl rfl (an (.head _) trivial (by rw [Nat.mul_one]; exact (hE h12.1 h12.2).2.2.1))) ?_)
 refine Rn [61,69,25,2,10] fun b34 hb34 b35 hb35=>Aw (fun hc35=>?_) fun hc35=>?_
 ·have hno:¬(n < l.length∧e < (bw l n).els.length∧c < (dI (bw l n).els e).length):=fun h=>by
   simp only [hb35,hb34,hb22,hb21,hb12,Bool.or_eq_true,decide_eq_true_eq] at hc35
   omega
  refine Rn [3,1,2,6,8] ?_
  refine aw rfl rfl (fun w' hm=>⟨?_,hm.b⟩)
  unfold kJ; rw [sf hno]; rfl
 have hin:n < l.length∧e < (bw l n).els.length∧c < (dI (bw l n).els e).length:=by
  simp only [hb35,hb34,hb22,hb21,hb12,Bool.or_eq_false_iff,decide_eq_false_iff_not] at hc35
  omega
 obtain ⟨k1,k2,k3⟩:=hin
 obtain ⟨s1,_,_,s4,_,s6⟩:=hS k1
 obtain ⟨e1,_,e3,e4⟩:=hE k1 k2
 obtain ⟨fb,fo,f1,_,f3,_⟩:=od e4 k3
 refine Rn [23,0,0] ?_
 refine Xv rfl (ae jH bQ (congrArg (fun A=>some (Value.slice A l.length cp)) s1) rfl Zo rfl) ?_
 refine Rn [4] ?_
 refine Xl rfl dd rfl (an (.head _) trivial s4) (Xm ?_)
 refine Xv rfl (ae dd fw (congrArg (fun A=>some (Value.slice A (bw l n).els.length ec)) e1) rfl Zo rfl) (Xl rfl ez rfl (an (.head _) trivial (by rw [Nat.mul_one]; exact e3)) (Xm ?_))
 refine Xv rfl (ae ez gG (congrArg (fun A=>some (Value.slice A (dI (bw l n).els e).length fc)) f1) rfl Zo rfl) (Xl rfl u9 rfl (an (.head _) trivial (by rw [Nat.mul_one]; exact f3)) ?_)
 refine Rn [1,2,6] ?_
 refine aw rfl rfl (fun w' hm=>⟨?_,hm.b⟩)
 unfold kJ; rw [se k1 k2 k3]; rfl
theorem vA {v:Value} {l:List Seg} {D:Nat→Prop} (n e c:Nat) (w:World) (hl:ab aZ D w v l) :
  Calls Tryz.prog 137 #[v,Vi (n:Nat),Vi (e:Nat),Vi (c:Nat)] w fun ee w'=>ee=.returned (.tuple #[Vi (kf l n e c).1,.bool (kf l n e c).2])∧Later w w':=by
 obtain ⟨A,cp,rfl,hlc,hmx,_⟩:=id hl
 obtain ⟨sb,so,EA,ec,hS⟩:=kg hl n
 obtain ⟨eb,eo,FA,fc,hE⟩:=kh (K:=n < l.length) (fun h=>(hS h).2.2.2.2.2) e
 refine enter Tryz.func137 rfl Tryz.ntmps137 rfl ?_
 refine Rn [3,1,1,2,5,3,0,24,0,21,21,61,69,25,0,21,21,21] fun b11 hb11 b16 hb16 b17 hb17=>?_
 refine Xi rfl rfl rfl (fun hg0=>by subst hg0; (try simp only [Qy]); have h1:n < l.length:=(by have h0:=hb17.symm; simp only [hb11,hb16,Bool.or_eq_false_iff,decide_eq_false_iff_not] at h0; omega); exact ae jH bQ (congrArg (fun A=>some (Value.slice A l.length cp)) (hS h1).1) rfl (h1) rfl) ?_
 refine Rn [22] ?_
 refine Xi rfl rfl rfl (fun hg0=>by subst hg0; (try simp only [Qy]); have h1:n < l.length:=(by have h0:=hb17.symm; simp only [hb11,hb16,Bool.or_eq_false_iff,decide_eq_false_iff_not] at h0; omega); exact aW dd rfl rfl (an (.head _) trivial (hS h1).2.2.2.1)) ?_
 refine Rn [61,69,25,0,21,21,21] fun b26 hb26 b27 hb27=>?_
 refine Xi rfl rfl rfl (fun hg0=>by subst hg0; (try simp only [Qy]); have h12:n < l.length∧e < (bw l n).els.length:=(by have h0:=hb27.symm; simp only [hb11,hb16,hb17,hb26,Bool.or_eq_false_iff,decide_eq_false_iff_not] at h0; omega); exact ae jH bQ (congrArg (fun A=>some (Value.slice A l.length cp)) (hS h12.1).1) rfl (h12.1) rfl) ?_
 refine Rn [22] ?_
 refine Xi rfl rfl rfl (fun hg0=>by subst hg0; (try simp only [Qy]); have h12:n < l.length∧e < (bw l n).els.length:=(by have h0:=hb27.symm; simp only [hb11,hb16,hb17,hb26,Bool.or_eq_false_iff,decide_eq_false_iff_not] at h0; omega); exact aW dd rfl rfl (an (.head _) trivial (hS h12.1).2.2.2.1)) (Xg ?_)
 refine Xi rfl rfl rfl (fun hg0=>by subst hg0; (try simp only [Qy]); have h12:n < l.length∧e < (bw l n).els.length:=(by have h0:=hb27.symm; simp only [hb11,hb16,hb17,hb26,Bool.or_eq_false_iff,decide_eq_false_iff_not] at h0; omega); exact ae dd fw (congrArg (fun A=>some (Value.slice A (bw l n).els.length ec)) (hE h12.1 h12.2).1) rfl (h12.2) rfl) (Xi rfl rfl rfl (fun hg0=>by subst hg0; (try simp only [Qy]); have h12:n < l.length∧e < (bw l n).els.length:=(by have h0:=hb27.symm; simp only [hb11,hb16,hb17,hb26,Bool.or_eq_false_iff,decide_eq_false_iff_not] at h0; omega); exact aW ez rfl rfl (an (.head _) trivial (by rw [Nat.mul_one]; exact (hE h12.1 h12.2).2.2.1))) ?_)
 refine Rn [61,69,25,2,10] fun b39 hb39 b40 hb40=>Aw (fun hc40=>?_) fun hc40=>?_
 ·have hno:¬(n < l.length∧e < (bw l n).els.length∧c < (dI (bw l n).els e).length):=fun h=>by
   simp only [hb40,hb39,hb27,hb26,hb17,hb16,hb11,Bool.or_eq_true,decide_eq_true_eq] at hc40
   omega
  refine Rn [3,1,1,2,6,8] ?_
  refine s7 rfl rfl rfl (fun w' hm=>⟨?_,hm.b⟩)
  unfold kf; rw [sf hno]
 have hin:n < l.length∧e < (bw l n).els.length∧c < (dI (bw l n).els e).length:=by
  simp only [hb40,hb39,hb27,hb26,hb17,hb16,hb11,Bool.or_eq_false_iff,decide_eq_false_iff_not] at hc40
  omega
 obtain ⟨k1,k2,k3⟩:=hin
 obtain ⟨s1,_,_,s4,_,s6⟩:=hS k1
 obtain ⟨e1,_,e3,e4⟩:=hE k1 k2
 obtain ⟨fb,fo,f1,_,f3,_⟩:=od e4 k3
 refine Rn [23,0,0] ?_
 refine Xv rfl (ae jH bQ (congrArg (fun A=>some (Value.slice A l.length cp)) s1) rfl Zo rfl) ?_
 refine Rn [4] ?_
 refine Xl rfl dd rfl (an (.head _) trivial s4) (Xm ?_)
 refine Xv rfl (ae dd fw (congrArg (fun A=>some (Value.slice A (bw l n).els.length ec)) e1) rfl Zo rfl) (Xl rfl ez rfl (an (.head _) trivial (by rw [Nat.mul_one]; exact e3)) (Xm ?_))
 refine Xv rfl (ae ez gG (congrArg (fun A=>some (Value.slice A (dI (bw l n).els e).length fc)) f1) rfl Zo rfl) (Xl rfl u9 rfl (an (.head _) trivial (by rw [Nat.mul_one]; exact f3)) (Xc rfl Tryz.func141 rfl (fun w1 hw1=>nu _ 9 w1 (by decide)) ?_))
 refine Rn [20,48,1,1,2,6] fun b54 hb54=>?_
 refine s7 rfl rfl rfl (fun w' hm=>⟨?_,hm.b⟩)
 rw [hb54]; unfold kf; rw [se k1 k2 k3]; rfl
theorem c_rrec {v:Value} {l:List Seg} {D:Nat→Prop} (n:Nat) (w:World) (hl:ab aZ D w v l) :
  Calls Tryz.prog 136 #[v,Vi (n:Nat)] w fun ee w'=>ee=.returned (.tuple #[.agg #[Vi (ep l n).1.1,Vi (ep l n).1.2],.bool (ep l n).2])∧Later w w':=by
 obtain ⟨A,cp,rfl,hlc,hmx,_⟩:=id hl
 obtain ⟨sb,so,EA,ec,hS⟩:=kg hl n
 obtain ⟨eb,eo,FA,fc,hE⟩:=kh (K:=n < l.length) (fun h=>(hS h).2.2.2.2.2) 2
 refine enter Tryz.func136 rfl Tryz.ntmps136 rfl ?_
 refine Rn [3,28,1,2,5,3,0,24,0,21,21,61,69,25,0,21,21] fun p4 b13 hb13 b18 hb18 b19 hb19=>?_
 refine Xi rfl rfl rfl (fun hg0=>by subst hg0; (try simp only [Qy]); have h1:n < l.length:=(by have h0:=hb19.symm; simp only [hb13,hb18,Bool.or_eq_false_iff,decide_eq_false_iff_not] at h0; omega); exact ae jH bQ (congrArg (fun A=>some (Value.slice A l.length cp)) (hS h1).1) rfl (h1) rfl) ?_
 refine Rn [22] ?_
 refine Xi rfl rfl rfl (fun hg0=>by subst hg0; (try simp only [Qy]); have h1:n < l.length:=(by have h0:=hb19.symm; simp only [hb13,hb18,Bool.or_eq_false_iff,decide_eq_false_iff_not] at h0; omega); exact aW dd rfl rfl (an (.head _) trivial (hS h1).2.2.2.1)) ?_
 refine Rn [61,72,25,0,21,21] fun b27 hb27 b28 hb28=>?_
 refine Xi rfl rfl rfl (fun hg0=>by subst hg0; (try simp only [Qy]); have h12:n < l.length∧2 < (bw l n).els.length:=(by have h0:=hb28.symm; simp only [hb13,hb18,hb19,hb27,Bool.or_eq_false_iff,decide_eq_false_iff_not] at h0; omega); exact ae jH bQ (congrArg (fun A=>some (Value.slice A l.length cp)) (hS h12.1).1) rfl (h12.1) rfl) ?_
 refine Rn [22] ?_
 refine Xi rfl rfl rfl (fun hg0=>by subst hg0; (try simp only [Qy]); have h12:n < l.length∧2 < (bw l n).els.length:=(by have h0:=hb28.symm; simp only [hb13,hb18,hb19,hb27,Bool.or_eq_false_iff,decide_eq_false_iff_not] at h0; omega); exact aW dd rfl rfl (an (.head _) trivial (hS h12.1).2.2.2.1)) (Xi rfl rfl rfl (fun hg0=>by subst hg0; (try simp only [Qy]); have h12:n < l.length∧2 < (bw l n).els.length:=(by have h0:=hb28.symm; simp only [hb13,hb18,hb19,hb27,Bool.or_eq_false_iff,decide_eq_false_iff_not] at h0; omega); exact ae (j:=2) dd fw (congrArg (fun A=>some (Value.slice A (bw l n).els.length ec)) (hE h12.1 h12.2).1) rfl (h12.2) rfl) (Xi rfl rfl rfl (fun hg0=>by subst hg0; (try simp only [Qy]); have h12:n < l.length∧2 < (bw l n).els.length:=(by have h0:=hb28.symm; simp only [hb13,hb18,hb19,hb27,Bool.or_eq_false_iff,decide_eq_false_iff_not] at h0; omega); exact aW ez rfl rfl (an (.head _) trivial (by rw [Nat.mul_one]; exact (hE h12.1 h12.2).2.2.1))) ?_))
 refine Rn [61,72,25,2,10] fun b38 hb38 b39 hb39=>Aw (fun hc39=>?_) fun hc39=>?_
 ·have hno:¬(n < l.length∧2 < (bw l n).els.length∧0 < (dI (bw l n).els 2).length):=fun h=>by
   simp only [hb39,hb38,hb28,hb27,hb19,hb18,hb13,Bool.or_eq_true,decide_eq_true_eq] at hc39
   omega
  refine Rn [3] ?_
  refine Xv rfl (aH (places:=[(0,1),(1,1)]) l9 pV Zk rfl rfl) ?_
  refine Rn [32,1,2,6,8] ?_
  refine yo (cs:=#[Vi 0,Vi 0]) rfl rfl rfl (.head _) l9 rfl iL (fun w' hm=>⟨?_,hm.b⟩)
  rw [rrec_out hno]
 have hin:n < l.length∧2 < (bw l n).els.length∧0 < (dI (bw l n).els 2).length:=by
  simp only [hb39,hb38,hb28,hb27,hb19,hb18,hb13,Bool.or_eq_false_iff,decide_eq_false_iff_not] at hc39
  omega
 obtain ⟨k1,k2,k3⟩:=hin
 obtain ⟨s1,_,_,s4,_,s6⟩:=hS k1
 obtain ⟨e1,_,e3,e4⟩:=hE k1 k2
 obtain ⟨fb,fo,f1,_,f3,fok⟩:=od e4 k3
 have hrr:=rrec_in k1 k2 k3
 obtain ⟨s,hs⟩:∃ s,(dI (bw l n).els 2)[0]=s:=⟨_,rfl⟩
 rw [hs] at f3 fok hrr
 have hsz:s.size≤9223372036854775807:=fok
 refine Rn [23,0,0] ?_
 refine Xv rfl (ae jH bQ (congrArg (fun A=>some (Value.slice A l.length cp)) s1) rfl Zo rfl) ?_
 refine Rn [4] ?_
 refine Xl rfl dd rfl (an (.head _) trivial s4) (Xv rfl (ae (j:=2) dd fw (congrArg (fun A=>some (Value.slice A (bw l n).els.length ec)) e1) rfl Zo rfl) (Xl rfl ez rfl (an (.head _) trivial (by rw [Nat.mul_one]; exact e3)) (Xv rfl (ae (j:=0) ez gG (congrArg (fun A=>some (Value.slice A (dI (bw l n).els 2).length fc)) f1) rfl Zo rfl) (Xl rfl u9 rfl (an (.head _) trivial (by rw [Nat.mul_one]; exact f3)) ?_))))
 refine Rn [1,2,5,3,1,2,14] ?_
 refine aO (σ:=Nat) (fun k=>k≤s.size∧∀ j,j < k→ad s j≠46) (fun k=>[(4,Pt p4),(6,Value.string s),(7,Vi (k:Nat))]) (fun k=>[(Bk p4 [Vi 0,Vi 0] 23)]) (fun k=>[(w,fun _=>True)]) (fun k=>s.size - k) (0) (⟨Nat.zero_le _,fun j hj=>absurd hj (Nat.not_lt_zero _)⟩) (aC Zu (fun _ h=>h)) ?_
 rintro k ⟨hk,hno⟩
 refine Rn [144,5,3,0,0,53,24,2,12] fun b53 hb53=>Aw (fun hc53=>?_) fun hc53=>?_
 ·have hk1:k < s.size:=by omega
  refine Rn [16,5,14,3,0,0] ?_
  refine Xv rfl (bv u9 rfl rfl (hk1)) ?_
  refine Rn [38,2,12] fun b59 hb59=>Aw (fun hc59=>?_) fun hc59=>?_
  ·have hdot:ad s k=46:=s5 (k:=46) |>.1 hc59
   have hcut:=cut_at hk1 hno hdot
   refine Rn [3,0,0] ?_
   refine Xv rfl (iF (j:=k) u9 rfl rfl (by omega)) (Xc rfl Tryz.func141 rfl (fun w1 hw1=>nu _ 9 w1 (by decide)) ?_)
   refine Rn [0,20,48,1,1,9,0,0] fun b66 hb66=>?_
   refine Xv rfl (bg (c:=((k+1:Nat):Int)) rfl rfl (by omega) (by omega)) (Xv rfl (jg (i:=k+1) u9 rfl rfl (by omega)) (Xc rfl Tryz.func141 rfl (fun w1 hw1=>nu _ 9 w1 (by decide)) ?_))
   refine Rn [0,20,48,1,1,9,0,0] fun b74 hb74=>?_
   refine Xv rfl (aH (places:=[(0,1),(1,1)]) l9 pV Zk rfl rfl) ?_
   refine Rn [0,0,21,30,32,1,2,6,15,8,8,15,8] fun b81 hb81=>?_
   refine yo (cs:=#[Vi (dV (s.extract 0 k) 9).1,Vi (dV (s.extract (k+1) s.size) 9).1]) rfl rfl rfl (.head _) l9 rfl iL (fun w' hm=>⟨?_,hm.b⟩)
   rw [hrr]; unfold jX; rw [hcut]; simp only [if_true]; rw [hb81,hb66,hb74]
  have hnd:ad s k≠46:=fun h=>hc59 (by rw [h]; rfl)
  refine Rn [45,27,17,18,0,26,1,13] ?_
  exact aJ (k+1) ⟨by omega,fun j hj=>by rcases Nat.lt_succ_iff_lt_or_eq.1 hj with h | rfl; (· exact hno j h); exact hnd⟩ (by omega) Zu (fun _ h=>h)
 obtain rfl:k=s.size:=by omega
 have hcut:=cut_no hno
 refine Rn [34,19,19,35,17,3] ?_
 refine Xv rfl (aH (places:=[(0,1),(1,1)]) l9 pV Zk rfl rfl) ?_
 refine Rn [32,1,2,6] ?_
 refine yo (cs:=#[Vi 0,Vi 0]) rfl rfl rfl (.head _) l9 rfl iL (fun w' hm=>⟨?_,hm.b⟩)
 rw [hrr]; unfold jX; rw [hcut]; rfl
open Go.RowKit Go.PK
theorem c_Atoi (s:ByteArray) (w:World) (hs:s.size≤281474976710656) (hL:LD w) :
  Calls Tryz.prog 158 #[.string s] w fun e w'=>∃ n ev b,e=.returned (.tuple #[Vi n,ev])∧Later w w'∧sc ev b∧(b=false→Lib.atoiAll (bl s)=.ok n)∧(b=true→∀ v,Lib.atoiAll (bl s)≠.ok v):=by
 obtain ⟨_,_,⟨tp,p,h1⟩,⟨tp2,p2,h2⟩⟩:=hL
 rcases hq:Lib.atoiAll s.data.toList with v | _ | _
 ·refine (Tryz.strconv_Atoi_ok s (by omega) v hq w).mono fun e w' ⟨h3,h4⟩=>⟨v,.nilIface,false,h3,?_,.inl ⟨rfl,rfl⟩,fun _=>hq,fun h=>by cases h⟩
  rcases h4 with rfl | ⟨t,rfl⟩
  ·exact Later.refl _
  exact Lib.bytesWorld_below w _ t
 ·exact (Any.strconv_Atoi_syntax_var Tryz.laysC172 s hs hq tp p w h1).mono fun e w' ⟨N,h3,_,_,h4⟩=>⟨_,_,true,h3,h4,.inr ⟨⟨_,_,rfl⟩,rfl⟩,(fun h=>by cases h),(fun _ v h=>by rw [show bl s=s.data.toList from rfl,hq] at h; cases h)⟩
 exact (Tryz.strconv_Atoi_range_var s hs hq tp2 p2 w h2).mono fun e w' ⟨N,h3,_,_,h4⟩=>⟨_,_,true,h3,h4,.inr ⟨⟨_,_,rfl⟩,rfl⟩,(fun h=>by cases h),(fun _ v h=>by rw [show bl s=s.data.toList from rfl,hq] at h; cases h)⟩
theorem c_Cut (s:ByteArray) (w:World) (hs:s.size≤2000000000) (hL:LD w) :
  Calls Tryz.prog 159 #[.string s,.string ⟨#[46]⟩] w fun e w'=>e=.returned (.tuple #[.string (iS s).1,.string (iS s).2.1,.bool (iS s).2.2])∧Later w w':=by
 obtain ⟨_,⟨m,hm⟩,_⟩:=hL
 refine (Tryz.strings_Cut s ⟨#[46]⟩ m w (by omega) hm).mono fun e w' ⟨h1,n,h2⟩=>⟨h1,?_⟩
 rw [h2]; exact ⟨rfl,rfl,rfl,Nat.le_refl _,fun _ _=>rfl⟩
theorem di (s:ByteArray):aj (cA s):=by
 unfold cA
 split
 ·rename_i v h
  split
  ·exact Lib.atoiAll_bounds h
  unfold aj; decide
 unfold aj; decide
theorem xh (s:ByteArray):(iS s).1.size≤s.size∧(iS s).2.1.size≤s.size:=by
 have e:s.size=(bl s).length:=(a8 s).symm
 unfold iS Lib.cut
 split
 ·constructor
  ·show (List.toArray _).size≤_; rw [List.size_toArray,e]; exact List.length_take_le' _ _
  show (List.toArray _).size≤_; rw [List.size_toArray,e,List.length_drop]; omega
 constructor
 ·show (List.toArray _).size≤_; rw [List.size_toArray,e]; exact Nat.le_refl _
 exact Nat.zero_le _
def gk (l:List Seg):Prop:=∀ x∈l,∀ y∈x.els,∀ s∈y,s.size≤2000000000
theorem eH {l:List Seg} (h:gk l) (n e c:Nat):(kJ l n e c).size≤2000000000:=by
 unfold kJ
 by_cases hin:n < l.length∧e < (bw l n).els.length∧c < (dI (bw l n).els e).length
 ·obtain ⟨k1,k2,k3⟩:=hin
  rw [se k1 k2 k3]
  refine h (bw l n) ?_ (dI (bw l n).els e) ?_ _ (List.getElem_mem k3)
  ·unfold bw; rw [dT k1]; exact List.getElem_mem k1
  unfold dI; rw [dT k2]; exact List.getElem_mem k2
 rw [sf hin]; exact Nat.zero_le _
theorem e6 (s:ByteArray) (w:World) (hs:s.size≤281474976710656) (hL:LD w) :
  Calls Tryz.prog 108 #[.string s] w fun e w'=>e=.returned (Vi (cA s))∧Later w w':=by
 refine enter Tryz.func108 rfl Tryz.ntmps108 rfl ?_
 refine Rn [3,1,9,0] ?_
 refine Xd (R:=fun v wa wb=>∃ n ev b,v=.tuple #[Vi n,ev]∧sc ev b∧(b=false→Lib.atoiAll (bl s)=.ok n)∧(b=true→∀ v,Lib.atoiAll (bl s)≠.ok v)) rfl Tryz.func158 rfl (fun w1 hw1=>(c_Atoi s w1 hs (hL.later hw1.b)).mono fun e w2 ⟨n,ev,b,h1,h2,h3⟩=>⟨_,h1,h2,n,ev,b,rfl,h3⟩) fun v7 wa7 wb7 hm7 hl7 hR7=>?_
 obtain ⟨n,ev,b0,rfl,hi11,h1,h2⟩:=hR7
 refine Rn [0,20,20,1,1,2,5,3,0] ?_
 refine Xb rfl (v_ine u175 rfl rfl hi11) fun b11 hb11=>?_
 refine Rn [0,21,83,63,25,2,10] fun b15 hb15 b16 hb16=>Aw (fun hc16=>?_) fun hc16=>?_
 ·have hneg:cA s=-1:=by
   unfold cA
   split
   ·rename_i v hv
    rw [if_neg (fun h18=>?_)]
    rw [hb16,hb15] at hc16
    rcases Bool.or_eq_true _ _▸hc16 with h | h
    ·exact h2 (hb11.symm.trans h) v hv
    have:=of_decide_eq_true h; omega
   rfl
  refine Rn [3,1,2,6,8] ?_
  refine aw rfl rfl (fun w' hm=>⟨?_,hm.b⟩)
  rw [hneg]
 have hyes:cA s=n:=by
  rw [hb16,hb15] at hc16
  obtain ⟨k1,k2⟩:=Bool.or_eq_false_iff.1 hc16
  have k3:=of_decide_eq_false k2
  unfold cA
  rw [h1 (hb11.symm.trans k1)]
  dsimp only
  rw [if_pos (by omega)]
 refine Rn [23,0,1,2,6] ?_
 refine aw rfl rfl (fun w' hm=>⟨?_,hm.b⟩)
 rw [hyes]; rfl
theorem vB (s:ByteArray) (w:World) (hs:s.size≤2000000000) (hL:LD w) :
  Calls Tryz.prog 110 #[.string s] w fun e w'=>e=.returned (.agg #[Vi (ue s).1,Vi (ue s).2])∧Later w w':=by
 refine enter Tryz.func110 rfl Tryz.ntmps110 rfl ?_
 refine Rn [3,28,9,0] fun p2=>?_
 refine Xc rfl Tryz.func159 rfl (fun w1 hw1=>c_Cut s w1 hs (hL.later hw1.b)) ?_
 refine Rn [0,20,20,48,1,1,1,9,0] fun b11 hb11=>?_
 refine Xc rfl Tryz.func108 rfl (fun w1 hw1=>e6 (iS s).1 w1 (by have:=(xh s).1; omega) (hL.later hw1.b)) ?_
 refine Xm ?_
 refine Xc rfl Tryz.func108 rfl (fun w1 hw1=>e6 (iS s).2.1 w1 (by have:=(xh s).2; omega) (hL.later hw1.b)) ?_
 refine Xv rfl (aH (places:=[(0,1),(1,1)]) l9 pV Zk rfl rfl) ?_
 refine Rn [32,2,6] ?_
 refine tz (cs:=#[Vi (ue s).1,Vi (ue s).2]) rfl rfl (.head _) l9 rfl iL (fun w' hm=>⟨rfl,hm.b⟩)
theorem c_SEq {u v:Value} {xs ys:List ByteArray} {D1 D2:Nat→Prop} (w:World) (h1s:ab aX D1 w u xs) (h2s:ab aX D2 w v ys) :
  Calls Tryz.prog 163 #[u,v] w fun e w'=>e=.returned (.bool (decide (xs=ys)))∧Later w w':=by
 obtain ⟨A1,c1,rfl,hl1,hm1,_⟩:=id h1s
 obtain ⟨A2,c2,rfl,hl2,hm2,_⟩:=id h2s
 refine enter Tryz.func163 rfl Tryz.ntmps163 rfl ?_
 refine Rn [3,1,2,5,3,0,31,0,31,37,2,12] fun b10 hb10=>Aw (fun hc10=>?_) fun hc10=>?_
 ·have hne:xs≠ys:=fun h=>by rw [h] at hc10; exact hc10 rfl
  refine Rn [3,1,2,6,8] ?_
  refine aw rfl rfl (fun w' hm=>⟨?_,hm.b⟩)
  rw [decide_eq_false (hne)]
 have hlen:xs.length=ys.length:=by omega
 refine Rn [16,5,3,0,31,0,2,14] ?_
 refine aO (σ:=Nat) (fun x=>x≤xs.length∧xs.take x=ys.take x) (fun x=>[(0,Value.slice A1 xs.length c1),(1,Value.slice A2 ys.length c2),(11,Value.slice A1 xs.length c1),(12,Vi (xs.length:Nat)),(13,Vi (x:Nat))]) (fun x=>[]) (fun x=>[(w,fun _=>True)]) (fun x=>xs.length - x) (0) (⟨Nat.zero_le _,rfl⟩) (aC Zu (fun _ h=>h)) ?_
 rintro k ⟨hk,ht⟩
 refine Rn [144,3,24,2,5,12] fun b14 hb14=>Aw (fun hc14=>?_) fun hc14=>?_
 ·have h1:k < xs.length:=by omega
  have h2:k < ys.length:=by omega
  obtain ⟨b1,o1,hA1,_,t1,_⟩:=od h1s h1
  obtain ⟨b2,o2,hA2,_,t2,_⟩:=od h2s h2
  refine Rn [16,5,14,3,0,1,2,5] ?_
  refine bc 9 ?_
  refine Rn [0,0] ?_
  refine Xv rfl (ae ez gG (congrArg (fun A=>some (Value.slice A xs.length c1)) hA1) rfl Zo rfl) (Xl rfl u9 rfl (an (.head _) trivial (by rw [Nat.mul_one]; exact t1)) ?_)
  refine Rn [0,0] ?_
  refine Xv rfl (ae ez gG (congrArg (fun A=>some (Value.slice A ys.length c2)) hA2) rfl Zo rfl) (Xl rfl u9 rfl (an (.head _) trivial (by rw [Nat.mul_one]; exact t2)) ?_)
  refine Rn [98,2,12] fun b24 hb24=>Aw (fun hc24=>?_) fun hc24=>?_
  ·have hne:xs≠ys:=lL h1 h2 hc24
   refine Rn [3,1,2,6,15,8,8,15,8] ?_
   refine aw rfl rfl (fun w' hm=>⟨?_,hm.b⟩)
   rw [decide_eq_false (hne)]
  refine Rn [45,27,17,18,26,0,13] ?_
  exact aJ (k+1) ⟨by omega,d6 h1 h2 ht hc24⟩ (by omega) Zu (fun _ h=>h)
 obtain rfl:k=xs.length:=by omega
 refine Rn [34,19,19,35,17,3,1,2,6] ?_
 refine aw rfl rfl (fun w' hm=>⟨?_,hm.b⟩)
 rw [decide_eq_true (iO hlen ht)]
theorem c_EF2 {u v:Value} {xs ys:List (List ByteArray)} {D1 D2:Nat→Prop} (w:World) (h1s:ab (aP aX) D1 w u xs) (h2s:ab (aP aX) D2 w v ys) :
  Calls Tryz.prog 162 #[u,v,.func (.func 163) #[] #[]] w fun e w'=>e=.returned (.bool (decide (xs=ys)))∧Later w w':=by
 obtain ⟨A1,c1,rfl,hl1,hm1,_⟩:=id h1s
 obtain ⟨A2,c2,rfl,hl2,hm2,_⟩:=id h2s
 refine enter Tryz.func162 rfl Tryz.ntmps162 rfl ?_
 refine Rn [3,1,2,5,3,0,31,0,31,37,2,12] fun b14 hb14=>Aw (fun hc14=>?_) fun hc14=>?_
 ·have hne:xs≠ys:=fun h=>by rw [h] at hc14; exact hc14 rfl
  refine Rn [3,1,2,6,8] ?_
  refine aw rfl rfl (fun w' hm=>⟨?_,hm.b⟩)
  rw [decide_eq_false (hne)]
 have hlen:xs.length=ys.length:=by omega
 refine Rn [16,5,3,0,31,0,2,14] ?_
 refine aO (σ:=Nat) (fun x=>x≤xs.length∧xs.take x=ys.take x) (fun x=>[(0,Value.slice A1 xs.length c1),(1,Value.slice A2 ys.length c2),(2,Value.func (.func 163) #[] #[]),(15,Value.slice A1 xs.length c1),(16,Vi (xs.length:Nat)),(17,Vi (x:Nat))]) (fun x=>[]) (fun x=>[(w,fun _=>True)]) (fun x=>xs.length - x) (0) (⟨Nat.zero_le _,rfl⟩) (aC Zu (fun _ h=>h)) ?_
 rintro k ⟨hk,ht⟩
 refine Rn [144,3,24,2,5,12] fun b18 hb18=>Aw (fun hc18=>?_) fun hc18=>?_
 ·have h1:k < xs.length:=by omega
  have h2:k < ys.length:=by omega
  obtain ⟨b1,o1,u1,hA1,_,t1,r1⟩:=qy h1s h1
  obtain ⟨b2,o2,u2,hA2,_,t2,r2⟩:=qy h2s h2
  obtain ⟨B1,d1,rfl,_⟩:=id r1
  obtain ⟨B2,d2,rfl,_⟩:=id r2
  refine Rn [16,5,14,3,0] ?_
  refine Xv rfl (ae dd fw (congrArg (fun A=>some (Value.slice A xs.length c1)) hA1) rfl Zo rfl) (Xl rfl ez rfl (an (.head _) trivial (by rw [Nat.mul_one]; exact t1)) ?_)
  refine Rn [1,1,9,0,0] ?_
  refine Xv rfl (ae dd fw (congrArg (fun A=>some (Value.slice A ys.length c2)) hA2) rfl Zo rfl) (Xl rfl ez rfl (an (.head _) trivial (by rw [Nat.mul_one]; exact t2)) ?_)
  refine Rn [1,9,0,0,0] ?_
  refine x_clb rfl rfl rfl rfl Tryz.func163 Zk rfl (fun w1 hw1=>by exact qM (c_SEq (xs:=xs[k]) (ys:=ys[k]) w1 (r1.keep (aV.later hw1.b)) (r2.keep (aV.later hw1.b)))) fun b29 hb29=>?_
  refine Rn [43,2,10] fun b30 hb30=>Aw (fun hc30=>?_) fun hc30=>?_
  ·have hne:xs≠ys:=lL h1 h2 (fun h=>by rw [hb30,hb29,decide_eq_true h] at hc30; cases hc30)
   refine Rn [3,1,2,6,15,8,8,15,8] ?_
   refine aw rfl rfl (fun w' hm=>⟨?_,hm.b⟩)
   rw [decide_eq_false (hne)]
  have heq:xs[k]=ys[k]:=by
   rw [hb30,hb29] at hc30
   exact of_decide_eq_true (by simpa using hc30)
  refine Rn [45,27,17,18,26,0,13] ?_
  exact aJ (k+1) ⟨by omega,d6 h1 h2 ht heq⟩ (by omega) Zu (fun _ h=>h)
 obtain rfl:k=xs.length:=by omega
 refine Rn [34,19,19,35,17,3,1,2,6] ?_
 refine aw rfl rfl (fun w' hm=>⟨?_,hm.b⟩)
 rw [decide_eq_true (iO hlen ht)]
theorem c_same1 {u v:Value} {x y:Seg} {D1 D2:Nat→Prop} (w:World) (h1s:ab (aP aX) D1 w u x.els) (h2s:ab (aP aX) D2 w v y.els) :
  Calls Tryz.prog 161 #[.agg #[.string x.tag,u],.agg #[.string y.tag,v]] w fun e w'=>e=.returned (.bool (decide (x=y)))∧Later w w':=by
 refine enter Tryz.func161 rfl Tryz.ntmps161 rfl ?_
 refine Rn [3,36,36,1,9,4,7,4,7,99,0,22,40,22,40] fun p2 p3 b9 hb9=>?_
 refine cQ [] rfl rfl rfl rfl rfl Tryz.func162 Zk (fun hg=>by obtain ⟨hg0,_⟩:=hg; subst hg0; (try simp only [Qy]); refine ⟨_,rfl,?_⟩; exact fun w1 hw1=>c_EF2 (xs:=x.els) (ys:=y.els) w1 (h1s.keep (aV.later hw1.b)) (h2s.keep (aV.later hw1.b))) fun b15 hb15=>?_
 refine Rn [30,1,2,6] fun b16 hb16=>?_
 refine aw rfl rfl (fun w' hm=>⟨?_,hm.b⟩)
 congr 3
 rw [hb16,hb15,hb9,Bool.eq_iff_iff]
 simp only [Bool.and_eq_true,decide_eq_true_eq]
 constructor
 ·rintro ⟨h1,h2⟩; exact w8 h1 h2
 rintro rfl; exact ⟨rfl,rfl⟩
theorem c_EF1 {u v:Value} {xs ys:List Seg} {D1 D2:Nat→Prop} (w:World) (h1s:ab aZ D1 w u xs) (h2s:ab aZ D2 w v ys) :
  Calls Tryz.prog 160 #[u,v,.func (.func 161) #[] #[]] w fun e w'=>e=.returned (.bool (decide (xs=ys)))∧Later w w':=by
 obtain ⟨A1,c1,rfl,hl1,hm1,_⟩:=id h1s
 obtain ⟨A2,c2,rfl,hl2,hm2,_⟩:=id h2s
 refine enter Tryz.func160 rfl Tryz.ntmps160 rfl ?_
 refine Rn [3,1,2,5,3,0,31,0,31,37,2,12] fun b14 hb14=>Aw (fun hc14=>?_) fun hc14=>?_
 ·have hne:xs≠ys:=fun h=>by rw [h] at hc14; exact hc14 rfl
  refine Rn [3,1,2,6,8] ?_
  refine aw rfl rfl (fun w' hm=>⟨?_,hm.b⟩)
  rw [decide_eq_false (hne)]
 have hlen:xs.length=ys.length:=by omega
 refine Rn [16,5,3,0,31,0,2,14] ?_
 refine aO (σ:=Nat) (fun x=>x≤xs.length∧xs.take x=ys.take x) (fun x=>[(0,Value.slice A1 xs.length c1),(1,Value.slice A2 ys.length c2),(2,Value.func (.func 161) #[] #[]),(15,Value.slice A1 xs.length c1),(16,Vi (xs.length:Nat)),(17,Vi (x:Nat))]) (fun x=>[]) (fun x=>[(w,fun _=>True)]) (fun x=>xs.length - x) (0) (⟨Nat.zero_le _,rfl⟩) (aC Zu (fun _ h=>h)) ?_
 rintro k ⟨hk,ht⟩
 refine Rn [144,3,24,2,5,12] fun b18 hb18=>Aw (fun hc18=>?_) fun hc18=>?_
 ·have h1:k < xs.length:=by omega
  have h2:k < ys.length:=by omega
  obtain ⟨b1,o1,u1,hA1,_,t1,v1,_,r1⟩:=mq h1s h1
  obtain ⟨b2,o2,u2,hA2,_,t2,v2,_,r2⟩:=mq h2s h2
  obtain ⟨B1,d1,rfl,_⟩:=id r1
  obtain ⟨B2,d2,rfl,_⟩:=id r2
  refine Rn [16,5,14,3,0] ?_
  refine Xv rfl (ae jH bQ (congrArg (fun A=>some (Value.slice A xs.length c1)) hA1) rfl Zo rfl) (Xv rfl (bj (vs:=[Value.string xs[k].tag,.slice B1 xs[k].els.length d1]) jE rfl bQ rfl (fun i hi=>by match i,hi with | 0,_=>exact an (.head _) trivial t1 | 1,_=>exact an (.head _) trivial v1)) ?_)
  refine Rn [28,1,32,9,0,0] fun p8=>?_
  refine Xv rfl (ae jH bQ (congrArg (fun A=>some (Value.slice A ys.length c2)) hA2) rfl Zo rfl) (Xv rfl (bj (vs:=[Value.string ys[k].tag,.slice B2 ys[k].els.length d2]) jE rfl bQ rfl (fun i hi=>by match i,hi with | 0,_=>exact an (.head _) trivial t2 | 1,_=>exact an (.head _) trivial v2)) ?_)
  refine Rn [28,32,9,0,39,39] fun p9=>?_
  refine x_clb rfl rfl rfl rfl Tryz.func161 Zk rfl (fun w1 hw1=>by exact qM (c_same1 (x:=xs[k]) (y:=ys[k]) w1 (r1.keep (aV.later hw1.b)) (r2.keep (aV.later hw1.b)))) fun b29 hb29=>?_
  refine Rn [43,2,10] fun b30 hb30=>Aw (fun hc30=>?_) fun hc30=>?_
  ·have hne:xs≠ys:=lL h1 h2 (fun h=>by rw [hb30,hb29,decide_eq_true h] at hc30; cases hc30)
   refine Rn [3,1,2,6,15,8,8,15,8] ?_
   refine aw rfl rfl (fun w' hm=>⟨?_,hm.b⟩)
   rw [decide_eq_false (hne)]
  have heq:xs[k]=ys[k]:=by
   rw [hb30,hb29] at hc30
   exact of_decide_eq_true (by simpa using hc30)
  refine Rn [45,27,17,18,26,0,13] ?_
  exact aJ (k+1) ⟨by omega,d6 h1 h2 ht heq⟩ (by omega) Zu (fun _ h=>h.less (List.nil_sublist _) (fun _ h=>h))
 obtain rfl:k=xs.length:=by omega
 refine Rn [34,19,19,35,17,3,1,2,6] ?_
 refine aw rfl rfl (fun w' hm=>⟨?_,hm.b⟩)
 rw [decide_eq_true (iO hlen ht)]
theorem sg {u v:Value} {xs ys:List Seg} {D1 D2:Nat→Prop} (w:World) (h1s:ab aZ D1 w u xs) (h2s:ab aZ D2 w v ys) :
  Calls Tryz.prog 111 #[u,v] w fun e w'=>e=.returned (.bool (decide (xs=ys)))∧Later w w':=by
 refine enter Tryz.func111 rfl Tryz.ntmps111 rfl ?_
 refine Rn [3,1,9,0,0] ?_
 refine Xh rfl Tryz.func160 rfl (fun w1 hw1=>c_EF1 w1 (h1s.keep (aV.later hw1.b)) (h2s.keep (aV.later hw1.b))) fun b7 hb7=>?_
 refine Rn [1,2,6] ?_
 refine aw rfl rfl (fun w' hm=>⟨?_,hm.b⟩)
 rw [hb7]
open Go.RowKit Go.PK
theorem kU {l:List Seg} (n e c:Nat):aj (kf l n e c).1:=by
 unfold kf
 split
 ·rename_i s _
  unfold dV
  split
  ·rename_i h
   have h1:=sd (bl s) h.1.2.1
   have h2:10 ^ (bl s).length≤10 ^ 9:=Nat.pow_le_pow_right (by decide) (by rw [a8]; exact h.2)
   have e9:(10:Nat) ^ 9=1000000000:=by decide
   unfold aj; dsimp only; omega
  unfold aj; decide
 unfold aj; decide
theorem xi {s:ByteArray} {m:Nat} (hm:m≤18):aj (dV s m).1:=by
 unfold dV
 split
 ·rename_i h
  have h1:=sd (bl s) h.1.2.1
  have h2:10 ^ (bl s).length≤10 ^ 18:=Nat.pow_le_pow_right (by decide) (by rw [a8]; omega)
  have e18:(10:Nat) ^ 18=1000000000000000000:=by decide
  unfold aj; dsimp only; omega
 unfold aj; decide
theorem ki {l:List Seg} (n:Nat):aj (ep l n).1.1∧aj (ep l n).1.2:=by
 have z:aj (0:Int)∧aj (0:Int):=by unfold aj; decide
 unfold ep
 split
 ·exact z
 split
 ·exact z
 unfold jX
 split
 ·exact ⟨xi (by decide),xi (by decide)⟩
 exact z
theorem rdE_ok (l:List Seg):(ma l).ok:=⟨di _,di _,di _,di _,di _,di _⟩
theorem rdR_ok (l:List Seg):(mA l).ok:=⟨kU _ _ _,kU _ _ _,(ki 2).1,(ki 2).2,kU _ _ _,kU _ _ _⟩
theorem sh {v:Value} {e:Ending} {wa wb:World} {xs:List Seg} (h1:e=.returned v) (h2:Later wa wb) (h3:ab aZ (fun b=>wa.heap.size≤b) wb v xs) (h4:xs.length=0→v=.slice none 0 0) :
  ∃ v,e=.returned v∧Later wa wb∧∃ A1 c1,v=.slice A1 xs.length c1∧ab aZ (fun b=>wa.heap.size≤b) wb (.slice A1 xs.length c1) xs∧A1.isNone=decide (xs.length=0):=by
 obtain ⟨A1,c1,rfl,_,_,hh⟩:=id h3
 refine ⟨_,h1,h2,A1,c1,rfl,h3,?_⟩
 by_cases h0:xs.length=0
 ·have h5:=h4 h0
  injection h5 with h5
  rw [h5,decide_eq_true h0]; rfl
 obtain ⟨b,o,rfl,_⟩:=hh (by omega)
 rw [decide_eq_false h0]; rfl
theorem uh {v:Value} {l:List Seg} {D:Nat→Prop} (w:World) (hl:ab aZ D w v l) (hbig:gk l) (hL:LD w) :
  Calls Tryz.prog 55 #[v] w fun e w'=>e=.returned (.tuple #[.agg (pI l).1.cells.toArray,Vi (pI l).2])∧Later w w':=by
 obtain ⟨A,cp,rfl,hlc,hmx,_⟩:=id hl
 refine enter Tryz.func55 rfl Tryz.ntmps55 rfl ?_
 refine Rn [3,28,1,9,0] fun p2=>?_
 refine Xc rfl Tryz.func109 rfl (fun w1 hw1=>eG 1 1 0 w1 (hl.keep (aV.later hw1.b))) ?_
 refine Xc rfl Tryz.func108 rfl (fun w1 hw1=>e6 (kJ l 1 1 0) w1 (Nat.le_trans (eH hbig 1 1 0) (by decide)) (hL.later hw1.b)) ?_
 refine Xm ?_
 refine Xc rfl Tryz.func109 rfl (fun w1 hw1=>eG 2 2 0 w1 (hl.keep (aV.later hw1.b))) ?_
 refine Xc rfl Tryz.func110 rfl (fun w1 hw1=>vB (kJ l 2 2 0) w1 (eH hbig 2 2 0) (hL.later hw1.b)) ?_
 refine Xm ?_
 refine Xc rfl Tryz.func109 rfl (fun w1 hw1=>eG 3 0 1 w1 (hl.keep (aV.later hw1.b))) ?_
 refine Xc rfl Tryz.func108 rfl (fun w1 hw1=>e6 (kJ l 3 0 1) w1 (Nat.le_trans (eH hbig 3 0 1) (by decide)) (hL.later hw1.b)) ?_
 refine Xm ?_
 refine Xc rfl Tryz.func109 rfl (fun w1 hw1=>eG 4 0 1 w1 (hl.keep (aV.later hw1.b))) ?_
 refine Xc rfl Tryz.func108 rfl (fun w1 hw1=>e6 (kJ l 4 0 1) w1 (Nat.le_trans (eH hbig 4 0 1) (by decide)) (hL.later hw1.b)) ?_
 refine Xm ?_
 refine Xc rfl Tryz.func109 rfl (fun w1 hw1=>eG 5 0 1 w1 (hl.keep (aV.later hw1.b))) ?_
 refine Xc rfl Tryz.func108 rfl (fun w1 hw1=>e6 (kJ l 5 0 1) w1 (Nat.le_trans (eH hbig 5 0 1) (by decide)) (hL.later hw1.b)) ?_
 refine Xv rfl (aH (places:=[(0,1),(1,1),(2,2),(4,1),(5,1),(6,1),(7,1),(8,1)]) f4 gI Zk rfl rfl) ?_
 refine Rn [28,32,2,5,3,39] fun p4=>?_
 refine Xd (R:=fun v wa wb=>∃ A1 c1,v=.slice A1 (aU (ma l)).length c1∧ab aZ (fun b=>wa.heap.size≤b) wb (.slice A1 (aU (ma l)).length c1) (aU (ma l))∧A1.isNone=decide ((aU (ma l)).length=0)) rfl Tryz.func104 rfl (fun w1 hw1=>(xe (ma l) w1 (rdE_ok l) (hL.later hw1.b)).mono fun e w2 ⟨v,h1,h2,h3,h4⟩=>sh h1 h2 h3 h4) fun v23 wa23 wb23 hm23 hl23 hR23=>?_
 obtain ⟨A1,c1,rfl,hr23,hn23⟩:=hR23
 refine Rn [1,9,0] ?_
 refine Xb rfl (kS jH rfl) fun b25 hb25=>?_
 refine Rn [0,21,21] ?_
 refine cQ [] rfl rfl rfl rfl rfl Tryz.func111 Zk (fun hg=>by obtain ⟨hg0,_⟩:=hg; subst hg0; (try simp only [Qy]); refine ⟨_,rfl,?_⟩; exact fun w1 hw1=>sg (xs:=aU (ma l)) (ys:=l) w1 (bY hr23 hw1 Zh hm23) (hl.keep (aV.later hw1.b))) fun b29 hb29=>?_
 refine Rn [64,25,2,10] fun b30 hb30 b31 hb31=>Aw (fun hc31=>?_) fun hc31=>?_
 ·have hno:¬(ej (ma l)∧eF (ma l)=l):=fun ⟨q1,q2⟩=>by
   have q3:aU (ma l)=eF (ma l):=by unfold aU; rw [if_pos ((bB _).2 q1)]
   rw [hb31,hb30,hb29,hb25,hn23,q3,decide_eq_true q2] at hc31
   revert hc31; simp [eF]
  refine Rn [3] ?_
  refine Xv rfl (aH (places:=[(0,1),(1,1),(2,2),(4,1),(5,1),(6,1),(7,1),(8,1)]) f4 gI Zk rfl rfl) ?_
  refine bX [(p4,Obj.cells (ma l).cells.toArray 25)] rfl rfl rfl rfl cm rfl rfl ?_
  refine Rn [1,2,6,8] ?_
  refine yo (cs:=co.cells.toArray) rfl rfl rfl Zh f4 rfl cm (fun w' hm=>⟨?_,hm.b⟩)
  unfold pI; rw [if_neg hno]
 have hyes:ej (ma l)∧eF (ma l)=l:=by
  rw [hb31,hb30,hb29,hb25,hn23] at hc31
  simp only [Bool.or_eq_false_iff,decide_eq_false_iff_not,Bool.not_eq_false',decide_eq_true_eq] at hc31
  by_cases hw:bV (ma l)=true
  ·have q3:aU (ma l)=eF (ma l):=by unfold aU; rw [if_pos hw]
   exact ⟨(bB _).1 hw,by rw [← q3]; exact hc31.2⟩
  exfalso; apply hc31.1; unfold aU; rw [if_neg hw]; rfl
 refine Rn [23,39] ?_
 refine bX [(p4,Obj.cells (ma l).cells.toArray 25)] rfl rfl rfl rfl cm rfl rfl ?_
 refine Rn [1,2,6] ?_
 refine yo (cs:=(ma l).cells.toArray) rfl rfl rfl Zh f4 rfl cm (fun w' hm=>⟨?_,hm.b⟩)
 unfold pI; rw [if_pos hyes]
theorem js {v:Value} {l:List Seg} {D:Nat→Prop} (w:World) (hl:ab aZ D w v l)  :
  Calls Tryz.prog 86 #[v] w fun e w'=>e=.returned (.tuple #[.agg (yK l).1.cells.toArray,Vi (yK l).2])∧Later w w':=by
 obtain ⟨A,cp,rfl,hlc,hmx,_⟩:=id hl
 refine enter Tryz.func86 rfl Tryz.ntmps86 rfl ?_
 refine Rn [3,28,1,9,28,9,0] fun p2 p4=>?_
 refine Xc rfl Tryz.func136 rfl (fun w1 hw1=>c_rrec 2 w1 (hl.keep (aV.later hw1.b))) ?_
 refine Rn [0,20,48,28,32,1,9,0] fun b21 hb21 p5=>?_
 refine Xc rfl Tryz.func137 rfl (fun w1 hw1=>vA 1 1 0 w1 (hl.keep (aV.later hw1.b))) ?_
 refine Rn [0,20,48,1,1,9,0] fun b26 hb26=>?_
 refine Xc rfl Tryz.func137 rfl (fun w1 hw1=>vA 3 0 1 w1 (hl.keep (aV.later hw1.b))) ?_
 refine Rn [0,20,48,1,1,9,0] fun b31 hb31=>?_
 refine Xc rfl Tryz.func137 rfl (fun w1 hw1=>vA 4 0 1 w1 (hl.keep (aV.later hw1.b))) ?_
 refine Rn [0,20,48,1,1,9,0] fun b36 hb36=>?_
 refine Xc rfl Tryz.func137 rfl (fun w1 hw1=>vA 5 0 1 w1 (hl.keep (aV.later hw1.b))) ?_
 refine Rn [0,20,48,1,1,9,0,0,39,0,0] fun b41 hb41=>?_
 refine Xv rfl (aH (places:=[(0,1),(1,1),(2,2),(4,1),(5,1),(6,1),(7,1),(8,1)]) f4 gI Zk rfl rfl) ?_
 refine bX [(Bk p5 [Vi (ep l 2).1.1,Vi (ep l 2).1.2] 23)] rfl rfl rfl rfl cm rfl rfl ?_
 refine Rn [2,5] ?_
 refine ey _ [(Bk p5 [Vi (ep l 2).1.1,Vi (ep l 2).1.2] 23),(p4,Obj.cells (mA l).cells.toArray 25),(Bk p2 co.cells 25)] _ ?_
 refine Rn [18,39] ?_
 refine Xh rfl Tryz.func128 rfl (fun w1 hw1=>eL (mA l) w1) fun b49 hb49=>?_
 refine Rn [1,2,5,3,0,43,0,21,64,25,0,21,64] fun b51 hb51 b54 hb54 b55 hb55 b58 hb58=>?_
 refine Rn [25,0,21,64,25,0,21,64] fun b59 hb59 b62 hb62 b63 hb63 b66 hb66=>?_
 refine Rn [25,0,21,64,25,2,10] fun b67 hb67 b70 hb70 b71 hb71=>Aw (fun hc71=>?_) fun hc71=>?_
 ·have hno:¬(((((ep l 2).2=true∧(kf l 1 1 0).2=true)∧(kf l 3 0 1).2=true)∧(kf l 4 0 1).2=true)∧(kf l 5 0 1).2=true∧ej (mA l)):=fun ⟨⟨⟨⟨q1,q2⟩,q3⟩,q4⟩,q5,q6⟩=>by
   rw [hb71,hb70,hb67,hb66,hb63,hb62,hb59,hb58,hb55,hb54,hb51,hb49,hb21,hb26,hb31,hb36,hb41] at hc71
   simp [q1,q2,q3,q4,q5,(bB _).2 q6] at hc71
  refine Rn [3] ?_
  refine Xv rfl (aH (places:=[(0,1),(1,1),(2,2),(4,1),(5,1),(6,1),(7,1),(8,1)]) f4 gI Zk rfl rfl) ?_
  refine bX [(Bk p5 [Vi (ep l 2).1.1,Vi (ep l 2).1.2] 23),(p4,Obj.cells (mA l).cells.toArray 25)] rfl rfl rfl rfl cm rfl rfl ?_
  refine Rn [1,2,6,8] ?_
  refine yo (cs:=co.cells.toArray) rfl rfl rfl Zh f4 rfl cm (fun w' hm=>⟨?_,hm.b⟩)
  unfold yK; rw [if_neg (fun h=>hno ⟨h.1,h.2.1,h.2.2.1⟩)]
 have hok:((((ep l 2).2=true∧(kf l 1 1 0).2=true)∧(kf l 3 0 1).2=true)∧(kf l 4 0 1).2=true)∧(kf l 5 0 1).2=true∧ej (mA l):=by
  rw [hb71,hb70,hb67,hb66,hb63,hb62,hb59,hb58,hb55,hb54,hb51,hb49,hb21,hb26,hb31,hb36,hb41] at hc71
  simp only [Bool.or_eq_false_iff,Bool.not_eq_false'] at hc71
  obtain ⟨⟨⟨⟨⟨q1,q2⟩,q3⟩,q4⟩,q5⟩,q6⟩:=hc71
  exact ⟨⟨⟨⟨q1,q2⟩,q3⟩,q4⟩,q5,(bB _).1 q6⟩
 refine Rn [23,39] ?_
 refine Xd (R:=fun v wa wb=>ab aZ (fun b=>wa.heap.size≤b) wb v (aU (mA l))) rfl Tryz.func84 rfl (fun w1 hw1=>(ow (mA l) w1 (rdR_ok l)).mono fun e w2 ⟨v,h1,h2,h3,_⟩=>⟨_,h1,h2,h3⟩) fun v74 wa74 wb74 hm74 hl74 hR74=>?_
 refine Xm ?_
 refine Xh rfl Tryz.func138 rfl (fun w1 hw1=>c_Same (xs:=aU (mA l)) (ys:=l) w1 (bY hR74 hw1 Zh hm74) (hl.keep (aV.later hw1.b))) fun b76 hb76=>?_
 refine Rn [1,2,5,3,0,43,2,10] fun b78 hb78=>Aw (fun hc78=>?_) fun hc78=>?_
 ·have hno:¬bT (mA l)=l:=fun q=>by
   have q3:aU (mA l)=bT (mA l):=by unfold aU; rw [if_pos ((bB _).2 hok.2.2),eq (gR hok.2.2)]
   rw [hb78,hb76,q3,decide_eq_true q] at hc78; cases hc78
  refine Rn [3] ?_
  refine Xv rfl (aH (places:=[(0,1),(1,1),(2,2),(4,1),(5,1),(6,1),(7,1),(8,1)]) f4 gI Zk rfl rfl) ?_
  refine bX [(Bk p5 [Vi (ep l 2).1.1,Vi (ep l 2).1.2] 23),(p4,Obj.cells (mA l).cells.toArray 25)] rfl rfl rfl rfl cm rfl rfl ?_
  refine Rn [1,2,6,8] ?_
  refine yo (cs:=co.cells.toArray) rfl rfl rfl Zh f4 rfl cm (fun w' hm=>⟨?_,hm.b⟩)
  unfold yK; rw [if_neg (fun h=>hno h.2.2.2)]
 have hyes:bT (mA l)=l:=by
  have q3:aU (mA l)=bT (mA l):=by unfold aU; rw [if_pos ((bB _).2 hok.2.2),eq (gR hok.2.2)]
  rw [hb78,hb76,q3] at hc78
  exact of_decide_eq_true (by simpa using hc78)
 refine Rn [23,39] ?_
 refine bX [(Bk p5 [Vi (ep l 2).1.1,Vi (ep l 2).1.2] 23),(p4,Obj.cells (mA l).cells.toArray 25)] rfl rfl rfl rfl cm rfl rfl ?_
 refine Rn [1,2,6] ?_
 refine yo (cs:=(mA l).cells.toArray) rfl rfl rfl Zh f4 rfl cm (fun w' hm=>⟨?_,hm.b⟩)
 unfold yK; rw [if_pos ⟨hok.1,hok.2.1,hok.2.2,hyes⟩]
open Go.RowKit Go.PK
open Go.RowKit Go.PK
theorem xk {v:Value} {ls:List PK.Ord} {D:Nat→Prop} (w:World) (hls:ab dE D w v ls) (hw:∀ o∈ls,ej (pf o)) (hn:ls.length≤1000) :
  Calls Tryz.prog 74 #[v] w fun e w'=>e=.returned (Vi (ba ls))∧Later w w':=by
 obtain ⟨A,cp,rfl,hlc,hmx,_⟩:=id hls
 refine enter Tryz.func74 rfl Tryz.ntmps74 rfl ?_
 refine Rn [3,1,9,1,2,5,3,1,2,14] ?_
 refine aO (σ:=Nat) (fun k=>k≤ls.length) (fun k=>[(0,Value.slice A ls.length cp),(3,Vi (ba (ls.take k))),(4,Vi (k:Nat))]) (fun k=>[]) (fun k=>[(w,fun _=>True)]) (fun k=>ls.length - k) (0) (Nat.zero_le _) (aC Zu (fun _ h=>h)) ?_
 rintro k hk
 refine Rn [144,5,3,0,0,31,24,2,12] fun b8 hb8=>Aw (fun hc8=>?_) fun hc8=>?_
 ·have hkl:k < ls.length:=by omega
  obtain ⟨ob,oo,hA,_,hc,hoA⟩:=jW hls hkl
  obtain ⟨g1,g2,_⟩:=j1 (hw ls[k] (List.getElem_mem hkl))
  obtain ⟨t1,t2⟩:=vD hw k
  obtain ⟨ox,hox⟩:∃ x,ls[k]=x:=⟨_,rfl⟩
  have hst:ba (ls.take (k+1))=ba (ls.take k)+ox.copies*ox.price:=by rw [gv hkl,j0,hox]
  rw [hox] at g1 g2 hc
  refine Rn [16,5,14] ?_
  refine bc 14 ?_
  refine Rn [0,0,0] ?_
  refine Xv rfl (ae qx cm (congrArg (fun A=>some (Value.slice A ls.length cp)) hA) rfl (hkl) rfl) ?_
  refine Rn [4] ?_
  refine Xl rfl u3 rfl (an (.head _) trivial (hc 4 (by decide))) ?_
  refine Rn [0,0] ?_
  refine Xv rfl (ae qx cm (congrArg (fun A=>some (Value.slice A ls.length cp)) hA) rfl (hkl) rfl) ?_
  refine Rn [4] ?_
  refine Xl rfl u3 rfl (an (.head _) trivial (hc 5 (by decide))) (Xv rfl (cY rfl rfl rfl (by omega)) (Xv rfl (bg (c:=ba (ls.take (k+1))) rfl rfl hst.symm (by rw [hst]; omega)) ?_))
  refine Rn [1,13,27,17,18,0,26,1,13] ?_
  exact aJ (k+1) (show k+1≤ls.length by omega) (by omega) Zu (fun _ h=>h)
 obtain rfl:k=ls.length:=by omega
 refine Rn [34,19,19,35,17,3,0,1,2,6] ?_
 refine aw rfl rfl (fun w' hm=>⟨?_,hm.b⟩)
 rw [List.take_length]
theorem qQ {v:Value} {ls:List PK.Ord} {D:Nat→Prop} (w:World) (hls:ab dE D w v ls)  :
  Calls Tryz.prog 71 #[v] w fun e w'=>e=.returned (.bool (decide (dB ls)))∧Later w w':=by
 obtain ⟨A,cp,rfl,hlc,hmx,_⟩:=id hls
 refine enter Tryz.func71 rfl Tryz.ntmps71 rfl ?_
 refine Rn [3,1,2,5,3,0,31,24,0,21,61,63,25,2,10] fun b8 hb8 b12 hb12 b13 hb13=>Aw (fun hc13=>?_) fun hc13=>?_
 ·have hno:¬dB ls:=fun ⟨q1,q2,_⟩=>by
   simp only [hb13,hb12,hb8,Bool.or_eq_true,decide_eq_true_eq] at hc13
   omega
  refine Rn [3,1,2,6,8] ?_
  refine aw rfl rfl (fun w' hm=>⟨?_,hm.b⟩)
  rw [decide_eq_false hno]
 have hlen:1≤ls.length∧ls.length≤999:=by
  simp only [hb13,hb12,hb8,Bool.or_eq_false_iff,decide_eq_false_iff_not] at hc13
  omega
 refine Rn [16,5,3,1,2,14] ?_
 refine aO (σ:=Nat) (fun k=>k≤ls.length∧∀ o∈ls.take k,ej (pf o)) (fun k=>[(0,Value.slice A ls.length cp),(3,Vi (k:Nat))]) (fun k=>[]) (fun k=>[(w,fun _=>True)]) (fun k=>ls.length - k) (0) (⟨Nat.zero_le _,fun o ho=>by simp at ho⟩) (aC Zu (fun _ h=>h)) ?_
 rintro k ⟨hk,hwr⟩
 refine Rn [144,5,3,0,0,31,24,2,12] fun b17 hb17=>Aw (fun hc17=>?_) fun hc17=>?_
 ·have hkl:k < ls.length:=by omega
  obtain ⟨ob,oo,hA,_,hc,hoA⟩:=jW hls hkl
  refine Rn [16,5,14,3,0,0] ?_
  refine Xv rfl (ae qx cm (congrArg (fun A=>some (Value.slice A ls.length cp)) hA) rfl (hkl) rfl) (Xv rfl (bj (vs:=ls[k].cells) f4 rfl cm rfl (fun j hj=>an (.head _) trivial (hc j hj))) ?_)
  refine Rn [28,32,9,4] fun p4=>?_
  refine aG [] rfl rfl rfl rfl cT rfl (by show 2≤9; decide) ?_
  refine Rn [2,5] ?_
  refine ey _ [(p4,Obj.cells (pf ls[k]).cells.toArray 25)] _ ?_
  refine Rn [18,39] ?_
  refine Xh rfl Tryz.func128 rfl (fun w1 hw1=>eL (pf ls[k]) w1) fun b26 hb26=>?_
  refine Rn [1,9,0,43,2,10] fun b28 hb28=>Aw (fun hc28=>?_) fun hc28=>?_
  ·have hno:¬dB ls:=fun ⟨_,_,q⟩=>by
    rw [hb28,hb26,(bB _).2 (q ls[k] (List.getElem_mem hkl))] at hc28
    cases hc28
   refine Rn [3,1,2,6,15,8,8,15,8] ?_
   refine aw rfl rfl (fun w' hm=>⟨?_,hm.b⟩)
   rw [decide_eq_false hno]
  have hyes:ej (pf ls[k]):=by
   rw [hb28,hb26] at hc28
   exact (bB _).1 (by simpa using hc28)
  refine Rn [45,27,17,18,0,26,1,13] ?_
  exact aJ (k+1) ⟨by omega,m9 hkl hwr hyes⟩ (by omega) Zu (fun w1 h=>h.less (List.nil_sublist _) (fun _ h=>h))
 obtain rfl:k=ls.length:=by omega
 rw [List.take_length] at hwr
 refine Rn [34,19,19,35,17,3,1,2,6] ?_
 refine aw rfl rfl (fun w' hm=>⟨?_,hm.b⟩)
 rw [decide_eq_true (show dB ls from ⟨hlen.1,hlen.2,hwr⟩)]
theorem vE {v:Value} {ls:List PK.Ord} {D:Nat→Prop} (w:World) (hls:ab dE D w v ls) (t:ByteArray) (hw:∀ o∈ls,ej (pf o)) (hn:ls.length≤1000) (ht:iD t) :
  Calls Tryz.prog 72 #[v,.string t] w fun e w'=>∃ q,e=.returned q∧Later w w'∧ab aZ (fun b=>w.heap.size≤b) w' q (bo ls t):=by
 obtain ⟨A,cp,rfl,hlc,hmx,_⟩:=id hls
 refine enter Tryz.func72 rfl Tryz.ntmps72 rfl ?_
 refine Rn [3,1,9] ?_
 refine Xd (R:=fun v wa wb=>∃ A c,v=.agg #[.string (⟨#[85,78,72]⟩),.slice A 2 c]∧ab (aP aX) (fun b=>wa.heap.size≤b) wb (.slice A 2 c) [[⟨#[49]⟩],[⟨#[73,78,86,79,73,67]⟩,⟨#[68]⟩,⟨#[57,54,65]⟩,⟨#[85,78]⟩]]) rfl Tryz.func129 rfl (fun w1 hw1=>(uf ⟨#[73,78,86,79,73,67]⟩ w1 (bz (by decide))).mono fun e w2 ⟨u,h1,h2,h3⟩=>dh h1 h2 h3) fun v8 wa8 wb8 hm8 hl8 hR8=>?_
 obtain ⟨A8,c8,rfl,hs8⟩:=hR8
 refine ac (cs:=[Value.string (⟨#[51,56,48]⟩)]) rfl rfl rfl ez gG kA rfl rfl rfl ?_
 intro p9
 refine Xd (R:=fun v wa wb=>∃ A c,v=.agg #[.string (⟨#[66,71,77]⟩),.slice A 1 c]∧ab (aP aX) (fun b=>wa.heap.size≤b) wb (.slice A 1 c) [[⟨#[51,56,48]⟩]]) rfl Tryz.func130 rfl (fun w1 hw1=>(ug (es:=[⟨#[51,56,48]⟩]) (D:=fun _=>True) ⟨#[66,71,77]⟩ w1 (gQ (T:=aX) (D:=fun _=>True) (e:=9) (b:=p9) [[Value.string (⟨#[51,56,48]⟩)]] (xs:=[⟨#[51,56,48]⟩]) hw1 Zh rfl (by simp) trivial ⟨⟨rfl,(bz (by decide))⟩,trivial⟩) (by simp)).mono fun e w2 ⟨u,h1,h2,h3⟩=>dh h1 h2 h3) fun v10 wa10 wb10 hm10 hl10 hR10=>?_
 obtain ⟨A10,c10,rfl,hs10⟩:=hR10
 refine ac (cs:=([[Value.string ⟨#[85,78,72]⟩,.slice A8 2 c8],[Value.string ⟨#[66,71,77]⟩,.slice A10 1 c10]]:List (List Value)).flatten) rfl rfl rfl jH bQ eY rfl rfl rfl ?_
 intro p11
 refine Rn [1,2,5,3,1,2,14] ?_
 refine qk (aA 134 (some (p11,([[Value.string ⟨#[85,78,72]⟩,.slice A8 2 c8],[Value.string ⟨#[66,71,77]⟩,.slice A10 1 c10]]:List (List Value)).flatten,2))) (List.Sublist.cons_cons _ (List.nil_sublist _)) (fun w0 hm0=>?_)
 have hmB:=hm0.less (own':=aA 134 (some (p11,([[Value.string ⟨#[85,78,72]⟩,.slice A8 2 c8],[Value.string ⟨#[66,71,77]⟩,.slice A10 1 c10]]:List (List Value)).flatten,2))) (List.Sublist.cons_cons _ (List.nil_sublist _)) (fun _ h=>h)
 have hT0:cZ aZ (dC w (aA 134 (some (p11,([[Value.string ⟨#[85,78,72]⟩,.slice A8 2 c8],[Value.string ⟨#[66,71,77]⟩,.slice A10 1 c10]]:List (List Value)).flatten,2)))) w0 (some (p11,([[Value.string ⟨#[85,78,72]⟩,.slice A8 2 c8],[Value.string ⟨#[66,71,77]⟩,.slice A10 1 c10]]:List (List Value)).flatten,2)) (dF++cc 0 (ls.take 0)):=qP (T:=aZ) (xs:=[]) (css:=[]) (css':=[[Value.string ⟨#[85,78,72]⟩,.slice A8 2 c8],[Value.string ⟨#[66,71,77]⟩,.slice A10 1 c10]]) (m:=2) (n:=0) rfl rfl (fun j h=>absurd h (Nat.not_lt_zero _)) (cE rfl (by decide)) rfl (.cons (bk (x:=⟨⟨#[85,78,72]⟩,[[⟨#[49]⟩],[⟨#[73,78,86,79,73,67]⟩,⟨#[68]⟩,⟨#[57,54,65]⟩,⟨#[85,78]⟩]]⟩) rfl (show (3:Nat)≤9223372036854775807 by decide) (hs8.keep (aV.made hmB (by first | repeat (first | exact List.Mem.head _ | apply List.Mem.tail) | simp) hm8 hm8.b.size))) (.cons (bk (x:=⟨⟨#[66,71,77]⟩,[[⟨#[51,56,48]⟩]]⟩) rfl (show (3:Nat)≤9223372036854775807 by decide) (hs10.keep (aV.made hmB (by first | repeat (first | exact List.Mem.head _ | apply List.Mem.tail) | simp) hm10 hm10.b.size))) .nil))
 refine aO (σ:=Nat×ak×World) (fun x=>x.1≤ls.length∧cZ aZ (dC w (aA 134 x.2.1)) x.2.2 x.2.1 (dF++cc 0 (ls.take x.1))) (fun x=>[(0,Value.slice A ls.length cp),(1,Value.string t),(5,au x.2.1 (2+4*x.1)),(6,Vi (x.1:Nat))]) (fun x=>aA 134 x.2.1) (fun x=>(x.2.2,a7 (aA 134 x.2.1))::[(w,fun _=>True)]) (fun x=>ls.length - x.1) ((0,(some (p11,([[Value.string ⟨#[85,78,72]⟩,.slice A8 2 c8],[Value.string ⟨#[66,71,77]⟩,.slice A10 1 c10]]:List (List Value)).flatten,2)),w0)) (⟨Nat.zero_le _,hT0⟩) (aC Zu (fun _ h=>h.less (List.Sublist.refl _) (fun q hq=>by simp at hq ⊢; rcases hq with h | h; (· exact .inl h); simp [h]))) ?_
 rintro ⟨k,R,ws⟩ ⟨hk,hT⟩
 refine Rn [144] ?_
 dsimp only at hk hT
 have hln:=hl_len hk
 refine Rn [5,3,0,0,31,24,2,12] fun b15 hb15=>Aw (fun hc15=>?_) fun hc15=>?_
 ·have hkl:k < ls.length:=by omega
  obtain ⟨ob,oo,hA,_,hc,hoA⟩:=jW hls hkl
  obtain ⟨_,_,⟨r1,r2⟩,⟨r3,r4⟩,⟨r5,r6⟩,⟨r7,r8⟩,r9,r10⟩:=j1 (hw ls[k] (List.getElem_mem hkl))
  obtain ⟨⟨i1,_,i3,i4,i5,i6⟩,_⟩:=id hoA
  refine Rn [16,5,14,3,0,0] ?_
  refine Xv rfl (ae qx cm (congrArg (fun A=>some (Value.slice A ls.length cp)) hA) rfl (hkl) rfl) (Xv rfl (bj (vs:=ls[k].cells) f4 rfl cm rfl (fun j hj=>an (.tail _ (.head _)) trivial (hc j hj))) ?_)
  refine Rn [28,32,2] fun p7=>?_
  refine ew 19 [(true,0),(true,1),(true,2),(true,3),(true,4),(true,6),(true,7),(true,10),(true,11),(true,14),(true,15),(false,5),(true,8),(false,9),(true,12),(false,13),(true,16),(false,17),(false,18)] Zk Zk ?_
  refine Rn [0,0] ?_
  refine Xv rfl (bg (c:=((k+1:Nat):Int)) rfl rfl (by omega) (by omega)) ?_
  refine Rn [4] ?_
  refine Xv rfl (bj (vs:=[Vi ls[k].src,Vi ls[k].num]) l9 rfl iL rfl (fun j hj=>aa (vs:=ls[k].cells) Zh (by match j,hj with | 0,_=>rfl | 1,_=>rfl))) ?_
  refine Rn [4,51,4,51,4,51] ?_
  refine Xd (R:=fun v wa wb=>∃ A c,v=.agg #[.string (⟨#[76,73,78]⟩),.slice A 3 c]∧ab (aP aX) (fun b=>wa.heap.size≤b) wb (.slice A 3 c) [[ai ((k+1:Nat):Int)],[⟨#[]⟩],[dD ls[k].src ls[k].num,⟨#[83,82,86]⟩]]) rfl Tryz.func131 rfl (fun w1 hw1=>(c_line ((k+1:Nat):Int) (ls[k].src,ls[k].num) w1 ⟨by omega,by unfold aj; omega⟩ ⟨r3,i3⟩ ⟨r5,i4⟩).mono fun e w2 ⟨u,h1,h2,h3⟩=>dh h1 h2 h3) fun v27 wa27 wb27 hm27 hl27 hR27=>?_
  obtain ⟨A27,c27,rfl,hs27⟩:=hR27
  refine Xc rfl Tryz.func73 rfl (fun w1 hw1=>jC ls[k].id w1 r1 i1) ?_
  refine Xd (R:=fun v wa wb=>∃ A c,v=.agg #[.string (⟨#[82,70,70]⟩),.slice A 1 c]∧ab (aP aX) (fun b=>wa.heap.size≤b) wb (.slice A 1 c) [[⟨#[79,78]⟩,ai ls[k].id]]) rfl Tryz.func132 rfl (fun w1 hw1=>(kT ⟨#[82,70,70]⟩ ⟨#[79,78]⟩ (ai ls[k].id) w1 (bz (by decide)) (fJ i1)).mono fun e w2 ⟨u,h1,h2,h3⟩=>dh h1 h2 h3) fun v31 wa31 wb31 hm31 hl31 hR31=>?_
  obtain ⟨A31,c31,rfl,hs31⟩:=hR31
  refine Xc rfl Tryz.func73 rfl (fun w1 hw1=>jC ls[k].copies w1 r7 i5) ?_
  refine Xd (R:=fun v wa wb=>∃ A c,v=.agg #[.string (⟨#[81,84,89]⟩),.slice A 1 c]∧ab (aP aX) (fun b=>wa.heap.size≤b) wb (.slice A 1 c) [[⟨#[52,55]⟩,ai ls[k].copies]]) rfl Tryz.func132 rfl (fun w1 hw1=>(kT ⟨#[81,84,89]⟩ ⟨#[52,55]⟩ (ai ls[k].copies) w1 (bz (by decide)) (fJ i5)).mono fun e w2 ⟨u,h1,h2,h3⟩=>dh h1 h2 h3) fun v35 wa35 wb35 hm35 hl35 hR35=>?_
  obtain ⟨A35,c35,rfl,hs35⟩:=hR35
  refine Xc rfl Tryz.func73 rfl (fun w1 hw1=>jC ls[k].price w1 r9 i6) ?_
  refine Xd (R:=fun v wa wb=>∃ A c,v=.agg #[.string (⟨#[80,82,73]⟩),.slice A 1 c]∧ab (aP aX) (fun b=>wa.heap.size≤b) wb (.slice A 1 c) [[⟨#[65,65,65]⟩,ai ls[k].price]]) rfl Tryz.func132 rfl (fun w1 hw1=>(kT ⟨#[80,82,73]⟩ ⟨#[65,65,65]⟩ (ai ls[k].price) w1 (bz (by decide)) (fJ i6)).mono fun e w2 ⟨u,h1,h2,h3⟩=>dh h1 h2 h3) fun v39 wa39 wb39 hm39 hl39 hR39=>?_
  obtain ⟨A39,c39,rfl,hs39⟩:=hR39
  refine ac (cs:=([[Value.string ⟨#[76,73,78]⟩,.slice A27 3 c27],[Value.string ⟨#[82,70,70]⟩,.slice A31 1 c31],[Value.string ⟨#[81,84,89]⟩,.slice A35 1 c35],[Value.string ⟨#[80,82,73]⟩,.slice A39 1 c39]]:List (List Value)).flatten) rfl rfl rfl jH bQ eY rfl rfl rfl ?_
  intro p40
  obtain ⟨css,hcl,hrow,hrd⟩:=hT
  rw [hln] at hcl hrow
  refine be (e:=134) [(p40,Obj.cells ([[Value.string ⟨#[76,73,78]⟩,.slice A27 3 c27],[Value.string ⟨#[82,70,70]⟩,.slice A31 1 c31],[Value.string ⟨#[81,84,89]⟩,.slice A35 1 c35],[Value.string ⟨#[80,82,73]⟩,.slice A39 1 c39]]:List (List Value)).flatten.toArray 134),(p7,Obj.cells ls[k].cells.toArray 25)] (l2:=[]) R (len:=2+4*k) (xs:=css.flatten) rfl rfl rfl rfl (by rw [List.append_nil]; rfl) hrow jH qA rfl rfl (m:=4) (news:=([[Value.string ⟨#[76,73,78]⟩,.slice A27 3 c27],[Value.string ⟨#[82,70,70]⟩,.slice A31 1 c31],[Value.string ⟨#[81,84,89]⟩,.slice A35 1 c35],[Value.string ⟨#[80,82,73]⟩,.slice A39 1 c39]]:List (List Value)).flatten) (fun i hi=>aa (vs:=([[Value.string ⟨#[76,73,78]⟩,.slice A27 3 c27],[Value.string ⟨#[82,70,70]⟩,.slice A31 1 c31],[Value.string ⟨#[81,84,89]⟩,.slice A35 1 c35],[Value.string ⟨#[80,82,73]⟩,.slice A39 1 c39]]:List (List Value)).flatten) (.head _) (by rw [Nat.zero_add]; exact List.getElem?_eq_getElem hi)) rfl Zx (by omega) fun R' hR'=>?_
  refine Rn [1,13,27,17,18,0,26,1,13] ?_
  rw [List.append_nil]
  have hsub:(aA 134 R').Sublist ([(p40,Obj.cells ([[Value.string ⟨#[76,73,78]⟩,.slice A27 3 c27],[Value.string ⟨#[82,70,70]⟩,.slice A31 1 c31],[Value.string ⟨#[81,84,89]⟩,.slice A35 1 c35],[Value.string ⟨#[80,82,73]⟩,.slice A39 1 c39]]:List (List Value)).flatten.toArray 134),(p7,Obj.cells ls[k].cells.toArray 25)]++aA 134 R'):=List.sublist_append_right _ _
  refine qj (aA 134 R') hsub (fun w0 hm0=>?_)
  have hmB:=hm0.less hsub (fun _ h=>h)
  have hT':=qP (T:=aZ) (D:=dC w (aA 134 R')) (ws:=w0) (ys:=ei k ls[k]) hln hcl (fun j h1 h2=>aZ.keep (hrd j h1 h2) (aV.frz hm0 hsub (by simp))) hR' rfl (.cons (bk (x:=⟨⟨#[76,73,78]⟩,[[ai ((k+1:Nat):Int)],[⟨#[]⟩],[dD ls[k].src ls[k].num,⟨#[83,82,86]⟩]]⟩) rfl (show (3:Nat)≤9223372036854775807 by decide) (hs27.keep (aV.made hmB (by first | repeat (first | exact List.Mem.head _ | apply List.Mem.tail) | simp) hm27 hm27.b.size))) (.cons (bk (x:=⟨⟨#[82,70,70]⟩,[[⟨#[79,78]⟩,ai ls[k].id]]⟩) rfl (show (3:Nat)≤9223372036854775807 by decide) (hs31.keep (aV.made hmB (by first | repeat (first | exact List.Mem.head _ | apply List.Mem.tail) | simp) hm31 hm31.b.size))) (.cons (bk (x:=⟨⟨#[81,84,89]⟩,[[⟨#[52,55]⟩,ai ls[k].copies]]⟩) rfl (show (3:Nat)≤9223372036854775807 by decide) (hs35.keep (aV.made hmB (by first | repeat (first | exact List.Mem.head _ | apply List.Mem.tail) | simp) hm35 hm35.b.size))) (.cons (bk (x:=⟨⟨#[80,82,73]⟩,[[⟨#[65,65,65]⟩,ai ls[k].price]]⟩) rfl (show (3:Nat)≤9223372036854775807 by decide) (hs39.keep (aV.made hmB (by first | repeat (first | exact List.Mem.head _ | apply List.Mem.tail) | simp) hm39 hm39.b.size))) .nil))))
  exact aJ (x:=(k,R,ws)) (μ:=fun q:Nat×ak×World=>ls.length - q.1) (k+1,R',w0) ⟨by dsimp only; omega,by dsimp only; rw [na hkl]; exact hT'⟩ (by simp only; omega) (by dsimp only; rw [show 2+4*(k+1)=2+4*k+4 by omega]; repeat (first | exact je.nil | refine je.cons rfl ?_)) (fun w1 h=>h.less (List.Sublist.refl _) (fun q hq=>by simp at hq ⊢; rcases hq with h | h; (· exact .inl h); simp [h]))
 obtain rfl:k=ls.length:=by omega
 rw [List.take_length] at hT hln
 refine Rn [34,19,19,35,17,3,0] ?_
 refine ac (cs:=[Value.string (⟨#[83]⟩)]) rfl rfl rfl ez gG kA rfl rfl rfl ?_
 intro p43
 refine Xd (R:=fun v wa wb=>∃ A c,v=.agg #[.string (⟨#[85,78,83]⟩),.slice A 1 c]∧ab (aP aX) (fun b=>wa.heap.size≤b) wb (.slice A 1 c) [[⟨#[83]⟩]]) rfl Tryz.func130 rfl (fun w1 hw1=>(ug (es:=[⟨#[83]⟩]) (D:=fun _=>True) ⟨#[85,78,83]⟩ w1 (gQ (T:=aX) (D:=fun _=>True) (e:=9) (b:=p43) [[Value.string (⟨#[83]⟩)]] (xs:=[⟨#[83]⟩]) hw1 Zh rfl (by simp) trivial ⟨⟨rfl,(bz (by decide))⟩,trivial⟩) (by simp)).mono fun e w2 ⟨u,h1,h2,h3⟩=>dh h1 h2 h3) fun v44 wa44 wb44 hm44 hl44 hR44=>?_
 obtain ⟨A44,c44,rfl,hs44⟩:=hR44
 refine Xm ?_
 refine Xd (R:=fun v wa wb=>∃ A c,v=.agg #[.string (⟨#[77,79,65]⟩),.slice A 1 c]∧ab (aP aX) (fun b=>wa.heap.size≤b) wb (.slice A 1 c) [[⟨#[56,54]⟩,t]]) rfl Tryz.func132 rfl (fun w1 hw1=>(kT ⟨#[77,79,65]⟩ ⟨#[56,54]⟩ t w1 (bz (by decide)) ht).mono fun e w2 ⟨u,h1,h2,h3⟩=>dh h1 h2 h3) fun v46 wa46 wb46 hm46 hl46 hR46=>?_
 obtain ⟨A46,c46,rfl,hs46⟩:=hR46
 refine Rn [0,31] ?_
 refine Xv rfl (cY rfl rfl rfl (by omega)) (Xv rfl (bg (c:=((4*ls.length+5:Nat):Int)) rfl rfl (by omega) (by omega)) (Xc rfl Tryz.func73 rfl (fun w1 hw1=>jC ((4*ls.length+5:Nat):Int) w1 (by omega) (by unfold aj; omega)) ?_))
 refine ac (cs:=[Value.string (ai ((4*ls.length+5:Nat):Int)),Value.string (⟨#[49]⟩)]) rfl rfl rfl ez gG kA rfl rfl rfl ?_
 intro p52
 refine Xd (R:=fun v wa wb=>∃ A c,v=.agg #[.string (⟨#[85,78,84]⟩),.slice A 2 c]∧ab (aP aX) (fun b=>wa.heap.size≤b) wb (.slice A 2 c) [[ai ((4*ls.length+5:Nat):Int)],[⟨#[49]⟩]]) rfl Tryz.func130 rfl (fun w1 hw1=>(ug (es:=[ai ((4*ls.length+5:Nat):Int),⟨#[49]⟩]) (D:=fun _=>True) ⟨#[85,78,84]⟩ w1 (gQ (T:=aX) (D:=fun _=>True) (e:=9) (b:=p52) [[Value.string (ai ((4*ls.length+5:Nat):Int))],[Value.string (⟨#[49]⟩)]] (xs:=[ai ((4*ls.length+5:Nat):Int),⟨#[49]⟩]) hw1 Zh rfl (by simp) trivial ⟨⟨rfl,fJ (by unfold aj; omega)⟩,⟨rfl,(bz (by decide))⟩,trivial⟩) (by simp)).mono fun e w2 ⟨u,h1,h2,h3⟩=>dh h1 h2 h3) fun v53 wa53 wb53 hm53 hl53 hR53=>?_
 obtain ⟨A53,c53,rfl,hs53⟩:=hR53
 refine ac (cs:=([[Value.string ⟨#[85,78,83]⟩,.slice A44 1 c44],[Value.string ⟨#[77,79,65]⟩,.slice A46 1 c46],[Value.string ⟨#[85,78,84]⟩,.slice A53 2 c53]]:List (List Value)).flatten) rfl rfl rfl jH bQ eY rfl rfl rfl ?_
 intro p54
 obtain ⟨css,hcl,hrow,hrd⟩:=hT
 rw [hln] at hcl hrow
 refine be (e:=134) [(p54,_),(p52,_),(p43,_)] (l2:=[]) R (len:=2+4*ls.length) (xs:=css.flatten) rfl rfl rfl rfl (by rw [List.append_nil]; rfl) hrow jH qA rfl rfl (m:=3) (news:=([[Value.string ⟨#[85,78,83]⟩,.slice A44 1 c44],[Value.string ⟨#[77,79,65]⟩,.slice A46 1 c46],[Value.string ⟨#[85,78,84]⟩,.slice A53 2 c53]]:List (List Value)).flatten) (fun i hi=>aa (vs:=([[Value.string ⟨#[85,78,83]⟩,.slice A44 1 c44],[Value.string ⟨#[77,79,65]⟩,.slice A46 1 c46],[Value.string ⟨#[85,78,84]⟩,.slice A53 2 c53]]:List (List Value)).flatten) (.head _) (by rw [Nat.zero_add]; exact List.getElem?_eq_getElem hi)) rfl Zx (by omega) fun R' hR'=>?_
 refine Rn [1,2,6] ?_
 rw [List.append_nil]
 refine aw rfl rfl (fun w' hm=>⟨_,rfl,hm.b,?_⟩)
 have hsub:=List.sublist_append_right ([(p54,Obj.cells ([[Value.string ⟨#[85,78,83]⟩,.slice A44 1 c44],[Value.string ⟨#[77,79,65]⟩,.slice A46 1 c46],[Value.string ⟨#[85,78,84]⟩,.slice A53 2 c53]]:List (List Value)).flatten.toArray 134),(Bk p52 [Value.string (ai ((4*ls.length+5:Nat):Int)),Value.string (⟨#[49]⟩)] 9),(Bk p43 [Value.string (⟨#[83]⟩)] 9)]:List (Nat×Obj)) (aA 134 R')
 have hmB:=hm.less hsub (fun _ h=>h)
 have hT':=qP (T:=aZ) (D:=dC w (aA 134 R')) (ws:=w') (ys:=fa ls.length t) hln hcl (fun j h1 h2=>aZ.keep (hrd j h1 h2) (aV.frz hm hsub (by simp))) hR' rfl (.cons (bk (x:=⟨⟨#[85,78,83]⟩,[[⟨#[83]⟩]]⟩) rfl (show (3:Nat)≤9223372036854775807 by decide) (hs44.keep (aV.made hmB (by first | repeat (first | exact List.Mem.head _ | apply List.Mem.tail) | simp) hm44 hm44.b.size))) (.cons (bk (x:=⟨⟨#[77,79,65]⟩,[[⟨#[56,54]⟩,t]]⟩) rfl (show (3:Nat)≤9223372036854775807 by decide) (hs46.keep (aV.made hmB (by first | repeat (first | exact List.Mem.head _ | apply List.Mem.tail) | simp) hm46 hm46.b.size))) (.cons (bk (x:=⟨⟨#[85,78,84]⟩,[[ai ((4*ls.length+5:Nat):Int)],[⟨#[49]⟩]]⟩) rfl (show (3:Nat)≤9223372036854775807 by decide) (hs53.keep (aV.made hmB (by first | repeat (first | exact List.Mem.head _ | apply List.Mem.tail) | simp) hm53 hm53.b.size))) .nil)))
 exact hT'.rd (e:=134) hmB (fun q hq=>hq) (fun _ h=>h.1) (fun q hq=>hmB.newer (by simp) hq) (by rw [List.length_append,hln]; rfl)
end Go.Proofs.YtifekogdhjabaaaGreatDoor
