/- Of the proofs of YtifekogdhjabaaaGreatDoor: PkTree PkTree2 PkTree3 PkR PkEdi2 PkNest PkEdi3 PkEdi4 PkStr PkEdi5 PkOrd PkEdi7 PkOps7 PkEdi8 PkNum PkInv PkOps8 PkText PkInv2 PkEq PkPay PkPayT PkPayR PkPayS PkPayL PkEdi6 PkWr PkFund PkOrdS PkFull PkFull2 PkBent2 PkFund2 PkRound PkIter PkSer PkSer2 PkSer3 PkTop PkSer4 PkSer5 PkRef4 PkSer6 PkSer7 PkSer8 PkSer9 PkCal4 PkSerW PkSan PkIss PkLaw25 PkSerR PkSerT PkSerU PkCod PkClm PkTake, put together. -/
import Derived.Test.YtifekogdhjabaaaGreatDoorQ1
import Derived.Lib.AppendStr
import Derived.Laws.BytesArg
import Derived.Lib.ItoaLen
import Derived.Lib.SplitLaws
import Derived.Sort.Grow
import Derived.Laws.Runes
import Derived.Lib.AtoiAll
import Derived.Lib.ItoaNum
import Derived.Lib.IndexBytes
import Derived.Lib.IndexMore
import Derived.Laws.ResultCell
import Derived.Laws.StructEq
import Derived.ChangeKeysEq
import Derived.ArgAppend
import Derived.OrdersIn
import Derived.RangeFuncCalls
import Derived.RangeFuncLeaves
import Derived.RangeFuncRecord
import Derived.RangeFuncSeq
import Derived.Laws.MakeOwn
import Derived.Lib.AtoiAllCases
import Derived.Lib.CountLaws
set_option linter.unusedVariables false
set_option linter.unusedSimpArgs false
set_option maxRecDepth 100000
set_option maxHeartbeats 4000000

namespace Go.PK
open Go Go.RowKit
inductive Pl where
  | done
  | flt (i:Nat) (t:Pl)
  | gr (i:Nat) (t e:Pl)
  | nil
def Pl.heads:Pl→List Nat
  | .gr i _ e=>i::e.heads
  | _=>[]
section
variable {P:Program} {ops:Array Oper} {md:Region.Mode}
def pH (P:Program) (ops:Array Oper) (K:Act→World→Prop):Pl→Act→World→Prop
  | .done,a,w=>K a w
  | .flt i t,a,w=>match ops[i]? with
    | none=>False
    | some o=>if Region.wanted o (yielded ops a.tmps) then flt P o a w (fun a'=>pH P ops K t a' w) else pH P ops K t (a.put o.dst undef) w
  | .gr i t e,a,w=>(match ops[i]? with
    | none=>False
    | some o=>if Region.wanted o (yielded ops a.tmps) then grw P o a w (pH P ops K t) else pH P ops K t (a.put o.dst undef) w)∧pH P ops K e a w
  | .nil,_,_=>True
def dz (md:Region.Mode) (ops:Array Oper) (n:Nat):Bool→Nat→Pl→Array Bool→Bool
  | alt,f,.done,listed=>!alt && decide (f=0) && Region.seqB md ops (ops.size - n) n listed
  | alt,f,.flt i t,listed=>!alt && decide (0 < f) && decide (i < n) && (Region.ready md ops listed).contains i && Region.free md ops listed i && dz md ops n false (f - 1) t (listed.setIfInBounds i true)
  | alt,f,.gr i t e,listed=>(alt || ((Region.ready md ops listed).all (fun j=>((Pl.gr i t e).heads).contains j) && !(Region.ready md ops listed).isEmpty)) && decide (0 < f) && decide (i < n) && dz md ops n false (f - 1) t (listed.setIfInBounds i true) && dz md ops n true f e listed
  | alt,_,.nil,_=>alt
theorem fM {n:Nat} {Q:Act→World→Prop} (hQ:∀ a w w',Later w w'→Q a w→Q a w') (hsel:Region.noSelect ops=true)
    (hnt:∀ i,i < n→∀ listed,HeadInv md ops n listed→listed.getD i true=false→∀ j∈Region.ready md ops listed,j < n) :
    ∀ (t:Pl) (f:Nat) (listed:Array Bool) (a:Act) (w:World),HeadInv md ops n listed →
      (dz md ops n false f t listed=true→pH P ops Q t a w→ip P md ops n (fun listed' a' w'=>Region.seqB md ops (ops.size - n) n listed'=true∧Q a' w') f listed a w) ∧
      (dz md ops n true f t listed=true→pH P ops Q t a w→∀ j∈t.heads,j∈Region.ready md ops listed→0 < f∧j < n∧canOp P ops j (ip P md ops n (fun listed' a' w'=>Region.seqB md ops (ops.size - n) n listed'=true∧Q a' w') (f - 1) (listed.setIfInBounds j true)) a w)
  | .done,f,listed,a,w,_=>⟨fun hB h=>by
      simp only [dz,Bool.and_eq_true,decide_eq_true_eq] at hB
      obtain ⟨⟨_,rfl⟩,hB⟩:=hB
      exact ⟨hB,h⟩,fun hB=>by simp [dz] at hB⟩
  | .flt i t,f,listed,a,w,inv=>⟨fun hB h=>by
      simp only [dz,Bool.and_eq_true,decide_eq_true_eq] at hB
      obtain ⟨⟨⟨⟨⟨_,hf⟩,hin⟩,hr⟩,hfr⟩,hB'⟩:=hB
      obtain ⟨g,rfl⟩:∃ g,f=g+1:=⟨f - 1,by omega⟩
      have hr':i∈Region.ready md ops listed:=by simpa using hr
      unfold pH at h
      cases ho:ops[i]? with
      | none=>simp only [ho] at h
      | some o =>
        simp only [ho] at h
        obtain ⟨v,hy,hK⟩:∃ v,da P ops o v a w∧pH P ops Q t (a.put o.dst v) w:=by
          by_cases hw:Region.wanted o (yielded ops a.tmps)=true
          · rw [if_pos hw] at h
            obtain ⟨v,h1,h2⟩:=h
            exact ⟨v,.inl ⟨hw,h1⟩,h2⟩
          · rw [if_neg hw] at h
            exact ⟨undef,.inr ⟨by simpa using hw,rfl⟩,h⟩
        exact lu (fun _ _ _ _ hw hq=>⟨hq.1,hQ _ _ _ hw hq.2⟩) ho (Region.noSelect_spec hsel) (hnt i hin) (fun _ _ _ hL=>seqB_ready hL.1) hin g listed a w inv (Region.free_spec ho hfr) hr' hy
          ((fM hQ hsel hnt t g _ _ _ (inv.set hr' hin)).1 (by simpa using hB') hK),fun hB=>by simp [dz] at hB⟩
  | .gr i t e,f,listed,a,w,inv=>by
      have alt:∀ alt,dz md ops n alt f (.gr i t e) listed=true→pH P ops Q (.gr i t e) a w→∀ j∈(Pl.gr i t e).heads,j∈Region.ready md ops listed→0 < f∧j < n∧canOp P ops j (ip P md ops n (fun listed' a' w'=>Region.seqB md ops (ops.size - n) n listed'=true∧Q a' w') (f - 1) (listed.setIfInBounds j true)) a w:=by
        intro alt hB h j hj hjr
        simp only [dz,Bool.and_eq_true,decide_eq_true_eq] at hB
        obtain ⟨⟨⟨⟨_,hf⟩,hin⟩,hB1⟩,hB2⟩:=hB
        unfold pH at h
        obtain ⟨h1,h2⟩:=h
        simp only [Pl.heads,List.mem_cons] at hj
        by_cases hji:j=i
        · subst hji
          refine ⟨hf,hin,fun w' hw'=>?_⟩
          cases ho:ops[j]? with
          | none=>simp only [ho] at h1
          | some o =>
            simp only [ho] at h1
            unfold wpOp
            simp only [ho]
            by_cases hw:Region.wanted o (yielded ops a.tmps)=true
            · rw [if_pos hw] at h1 ⊢
              exact .inl (Oper.wp_mono (fun a' w2 hk=>⟨hk.1,(fM hQ hsel hnt t _ _ _ _ (inv.set hjr hin)).1 hB1 hk.2⟩) (h1 w' hw'))
            · rw [if_neg hw] at h1 ⊢
              exact ⟨Later.refl _,eQ (fun _ _ _ _ hw hq=>⟨hq.1,hQ _ _ _ hw hq.2⟩) _ _ _ _ _ hw' ((fM hQ hsel hnt t _ _ _ _ (inv.set hjr hin)).1 hB1 h1)⟩
        · have hj':j∈e.heads:=by rcases hj with h | h; exact absurd h hji; exact h
          exact (fM hQ hsel hnt e f listed a w inv).2 hB2 h2 j hj' hjr
      refine ⟨fun hB h=>?_,alt true⟩
      have hB0:=hB
      simp only [dz,Bool.and_eq_true,decide_eq_true_eq,Bool.false_or] at hB
      obtain ⟨⟨⟨⟨⟨hall,hne⟩,hf⟩,_⟩,_⟩,_⟩:=hB
      obtain ⟨g,rfl⟩:∃ g,f=g+1:=⟨f - 1,by omega⟩
      refine ⟨fun h0=>by rw [h0] at hne; simp at hne,fun j hj=>?_⟩
      have hjh:j∈(Pl.gr i t e).heads:=by simpa using List.all_eq_true.1 hall j hj
      exact (alt false hB0 h j hjh hj).2
  | .nil,f,listed,a,w,_=>⟨fun hB=>by simp [dz] at hB,fun _ _ j hj=>by simp [Pl.heads] at hj⟩
theorem nZ {id:Nat} {Q:Exit→Act→World→Prop} {a:Act} {w:World} {l:List Oper} (n:Nat) (t:Pl) (hm:P.follows .mixedOrders=true)
    (hB:(Region.noSelect l.toArray && (decide (n=l.toArray.size) || (decide (n < l.toArray.size) && Region.sinkB .any l.toArray n && Region.chainB .any l.toArray n)) && dz .any l.toArray n false n t (Array.replicate l.toArray.size false))=true)
    (h:pH P l.toArray (fun a' w'=>∀ w'',Later w' w''→wpList P l.toArray Q (l.drop n) a' w'') t a w):(Code.region id l.toArray true).wp P Q a w:=by
  simp only [Bool.and_eq_true] at hB
  obtain ⟨⟨hsel,hn⟩,hpl⟩:=hB
  have hnle:n≤l.toArray.size:=by
    rcases Bool.or_eq_true _ _▸hn with hn | hn
    · simp only [decide_eq_true_eq] at hn; omega
    · simp only [Bool.and_eq_true,decide_eq_true_eq] at hn; omega
  have hnt:∀ i,i < n→∀ listed,HeadInv .any l.toArray n listed→listed.getD i true=false→∀ j∈Region.ready .any l.toArray listed,j < n:=by
    intro i hin listed inv hun j hj
    rcases Bool.or_eq_true _ _▸hn with hn | hn
    · simp only [decide_eq_true_eq] at hn
      have:=nK j hj
      omega
    · simp only [Bool.and_eq_true,decide_eq_true_eq] at hn
      obtain ⟨⟨hn,hs⟩,hc⟩:=hn
      rcases Nat.lt_or_ge j n with h | h
      · exact h
      · exact absurd hj (tail_waits hs hc hn inv _ i rfl hin hun j h)
  have inv0:HeadInv .any l.toArray n (Array.replicate l.toArray.size false) :=
    ⟨by simp,fun j oj _ hl=>(by rw [getD_replicate_false] at hl; cases hl),fun t _ ht=>getD_in (by simpa using ht) (getD_replicate_false _ _)⟩
  have H:=(fM (P:=P) (md:=.any) (Q:=fun a' w'=>∀ w'',Later w' w''→wpList P l.toArray Q (l.drop n) a' w'') (fun a w w' hw hq w'' hw''=>hq w'' (hw.trans hw'')) hsel hnt t n _ a w inv0).1 hpl h
  refine wp_region_any hm ?_
  have hdl:(l.drop n).length=l.toArray.size - n:=by simp
  have:=jc (Q':=Q) (g:=l.toArray.size - n) (fun listed a' w' hL=>by
    have:=wpAny_of_seq (md:=.any) (Q':=Q) (l.drop n) n listed a' w' (fun j=>by simp [List.getElem?_drop]) (by rw [hdl]; exact hL.1) (hL.2 w' (Later.refl _))
    rwa [hdl] at this) _ _ _ _ (eQ (fun _ _ _ _ hw hq=>⟨hq.1,fun w2 h2=>hq.2 w2 (hw.trans h2)⟩) _ _ _ _ _ (Later.drew w) H)
  rw [show n+(l.toArray.size - n)=l.toArray.size by omega] at this
  exact this
end
section
variable {P:Program} {n:Nat} {l:List (Nat×Value)} {own:List (Nat×Obj)} {ro:List av}
theorem rM {id:Nat} {Q:Exit→Act→World→Prop} {lops:List Oper} (m:Nat) (t:Pl) (hm:P.follows .mixedOrders=true)
    (hB:(Region.noSelect lops.toArray && (decide (m=lops.toArray.size) || (decide (m < lops.toArray.size) && Region.sinkB .any lops.toArray m && Region.chainB .any lops.toArray m)) && dz .any lops.toArray m false m t (Array.replicate lops.toArray.size false))=true)
    (h:S (pH P lops.toArray (fun a' w'=>∀ w'',Later w' w''→wpList P lops.toArray Q (lops.drop m) a' w'') t) n l own ro):W P (.region id lops.toArray true) Q n l own ro :=
  fun a w ha hw=>nZ m t hm hB (h a w ha hw)
variable {ops:Array Oper} {Q:Exit→Act→World→Prop} {K:Act→World→Prop} {i:Nat} {t e:Pl}
theorem t_flt (h:WX P ops Q (pH P ops K t) [(some true,i)] n l own ro):S (pH P ops K (.flt i t)) n l own ro:=fun a w ha hw=>by
  have h:=h a w ha hw
  unfold pH
  simp only [hJ] at h
  split <;> rename_i ho <;> simp only [ho] at h
  split <;> rename_i hw'
  · rw [if_pos hw'] at h
    obtain ⟨v,h1,h2⟩:=h
    exact ⟨v,h1,h2 w (Later.refl _)⟩
  · rw [if_neg hw'] at h
    exact h w (Later.refl _)
theorem t_gr (h:WX P ops Q (pH P ops K t) [(some false,i)] n l own ro) (he:S (pH P ops K e) n l own ro):S (pH P ops K (.gr i t e)) n l own ro:=fun a w ha hw=>by
  have h:=h a w ha hw
  unfold pH
  refine ⟨?_,he a w ha hw⟩
  simp only [hJ] at h
  split <;> rename_i ho <;> simp only [ho] at h
  split <;> rename_i hw'
  · rw [if_pos hw'] at h
    exact fun w2 h2=>Oper.wp_mono (fun a' w' hk=>⟨hk.1,hk.2 w' (Later.refl _)⟩) (h w2 h2)
  · rw [if_neg hw'] at h
    exact h w (Later.refl _)
theorem t_nil:S (pH P ops K .nil) n l own ro:=fun _ _ _ _=>trivial
theorem vh {lops:List Oper} {m:Nat} (h:WX P lops.toArray Q (fun a w=>Q .normal a w) (dX m lops.length) n l own ro) :
    S (pH P lops.toArray (fun a' w'=>∀ w'',Later w' w''→wpList P lops.toArray Q (lops.drop m) a' w'') .done) n l own ro :=
  fun a w ha hw w2 h2=>dW _ m a w2 rfl (j7 h2 (h a w ha hw))
end
end Go.PK

namespace Go.PK
open Go Go.RowKit
section
variable {P:Program} {ops:Array Oper} {md:Region.Mode} {w0:World}
def canOp0 (P:Program) (ops:Array Oper) (w0:World) (i:Nat) (K:Act→World→Prop) (a:Act) (w:World):Prop :=
  ∀ w',Later w w'→Later w0 w'→wpOp P ops (fun _ _ _=>False) i (fun a'' w''=>Later w0 w''∧K a'' w'') a w'
def ka (P:Program) (ops:Array Oper) (w0:World) (o:Oper) (v:Value) (a:Act):Prop :=
  (Region.wanted o (yielded ops a.tmps)=true∧∀ w',Later w0 w'→fZ P o a w' v)∨(Region.wanted o (yielded ops a.tmps)=false∧v=undef)
theorem ka.of_same {o:Oper} {v:Value} {a a':Act} (hy:ka P ops w0 o v a) (he:execOp a'.eval o=execOp a.eval o)
    (hw:Region.wanted o (yielded ops a'.tmps)=Region.wanted o (yielded ops a.tmps)):ka P ops w0 o v a':=by
  unfold ka fZ at *
  rw [he,hw]
  exact hy
theorem ka.canOp {i:Nat} {o:Oper} {v:Value} {a:Act} {w:World} (hi:ops[i]?=some o) (hy:ka P ops w0 o v a) {K:Act→World→Prop}
    (h:∀ w',Later w w'→K (a.put o.dst v) w'):canOp0 P ops w0 i K a w:=by
  intro w' hw' h0
  unfold Go.wpOp
  simp only [hi]
  rcases hy with ⟨hw,hv⟩ | ⟨hw,rfl⟩
  · rw [if_pos hw]
    refine .inl ?_
    have h3:=hv w' h0
    unfold fZ at h3
    unfold Oper.wp
    generalize (execOp a.eval o).run P w'=r at *
    cases r with
    | ok n w1 =>
      cases n <;> simp only [jb] at h3 <;> simp only [Oper.upon]
      case value u=>obtain ⟨rfl,rfl⟩:=h3; exact ⟨h0,h _ hw'⟩
      case skip=>obtain ⟨rfl,rfl⟩:=h3; exact ⟨h0,h _ hw'⟩
      case enter f args =>
        obtain ⟨rfl,hc⟩:=h3
        exact hc.mono fun e w2 ⟨he,hl⟩=>by subst he; exact ⟨h0.trans hl,h _ (hw'.trans hl)⟩
    | halt x w1=>simp only [jb] at h3
  · rw [if_neg (by rw [hw]; exact Bool.false_ne_true)]
    exact ⟨h0,h _ hw'⟩
end
section
variable {P:Program} {n:Nat} {l:List (Nat×Value)} {own:List (Nat×Obj)} {ro:List av}
theorem Mem.frozen {w:World} (h:Mem w own ro):Mem w [] ((w,fun _=>True)::ro) where
  own_at:=fun p hp=>by cases hp
  own_nd:=by simp
  ro_st:=fun s hs=>by
    rcases List.mem_cons.1 hs with rfl | hs
    · exact ⟨rfl,rfl,rfl,Nat.le_refl _⟩
    · exact h.ro_st s hs
  ro_at:=fun s hs k hk hlt=>by
    rcases List.mem_cons.1 hs with rfl | hs
    · rfl
    · exact h.ro_at s hs k hk hlt
  apart:=fun p hp=>by cases hp
variable {ops:Array Oper} {Q:Exit→Act→World→Prop} {K:Act→World→Prop} {i:Nat} {t e:Pl} {w0:World}
end
end Go.PK

namespace Go.PK
open Go Go.RowKit
section
variable {P:Program} {ops:Array Oper} {md:Region.Mode} {oF:List (Nat×Obj)} {rF:List av}
def iu (P:Program) (ops:Array Oper) (oF:List (Nat×Obj)) (rF:List av) (i:Nat) (K:Act→World→Prop) (a:Act) (w:World):Prop :=
  ∀ w',Later w w'→Mem w' oF rF→wpOp P ops (fun _ _ _=>False) i (fun a'' w''=>Mem w'' oF rF∧K a'' w'') a w'
theorem tI {i:Nat} {a:Act} {w:World} {K K':Act→World→Prop} (h:∀ a w,K a w→K' a w) (hh:iu P ops oF rF i K a w):iu P ops oF rF i K' a w :=
  fun w' hw h0=>wpOp_mono (fun _ _ hk=>⟨hk.1,h _ _ hk.2⟩) (hh w' hw h0)
theorem rN {i:Nat} {a:Act} {w w1:World} {K:Act→World→Prop} (hw:Later w w1) (hh:iu P ops oF rF i K a w):iu P ops oF rF i K a w1 :=
  fun w' hw' h0=>hh w' (hw.trans hw') h0
def jl (P:Program) (md:Region.Mode) (ops:Array Oper) (oF:List (Nat×Obj)) (rF:List av) (n:Nat) (L:Array Bool→Act→World→Prop):Nat→Array Bool→Act→World→Prop
  | 0,listed,a,w=>L listed a w
  | f+1,listed,a,w=>Region.ready md ops listed≠[]∧∀ i∈Region.ready md ops listed,i < n∧iu P ops oF rF i (jl P md ops oF rF n L f (listed.setIfInBounds i true)) a w
theorem jm {n:Nat} {L:Array Bool→Act→World→Prop} (hL:hZ L):∀ (f:Nat) (listed:Array Bool) (a:Act) (w w':World),Later w w' →
    jl P md ops oF rF n L f listed a w→jl P md ops oF rF n L f listed a w'
  | 0,_,_,_,_,h,hh=>hL _ _ _ _ h hh
  | _+1,_,_,_,_,h,hh=>⟨hh.1,fun i hi=>⟨(hh.2 i hi).1,rN h (hh.2 i hi).2⟩⟩
theorem kH {n g:Nat} {L:Array Bool→Act→World→Prop} {Q':Exit→Act→World→Prop} (hL:∀ listed a w,Mem w oF rF→L listed a w→wpAny P md ops Q' g listed a w) :
    ∀ (f:Nat) (listed:Array Bool) (a:Act) (w:World),Mem w oF rF→jl P md ops oF rF n L f listed a w→wpAny P md ops Q' (f+g) listed a w
  | 0,listed,a,w,h0,h=>by rw [Nat.zero_add]; exact hL _ _ _ h0 h
  | f+1,listed,a,w,h0,h=>by
    rw [show f+1+g=(f+g)+1 by omega]
    refine ⟨fun he=>absurd he h.1,fun i hi=>?_⟩
    have h1:=(h.2 i hi).2 w (Later.refl w) h0
    have h2:wpOp P ops (fun _ _ _=>False) i (wpAny P md ops Q' (f+g) (listed.setIfInBounds i true)) a w :=
      wpOp_mono (fun a' w' h'=>kH hL f _ a' w' h'.1 h'.2) h1
    unfold wpOp at h2 ⊢
    split
    · rename_i ho; simp only [ho] at h2; exact h2
    · rename_i o ho
      simp only [ho] at h2
      split
      · rename_i hw
        simp only [hw,if_true] at h2
        rcases h2 with h2 | ⟨_,_,_,h2⟩
        · refine .inl ?_
          unfold Oper.wp at h2 ⊢
          generalize (execOp a.eval o).run P w=r at *
          cases r with
          | ok x w' =>
            cases x <;> simp only [Oper.upon] at h2 ⊢ <;> first
              | exact h2
              | (refine Calls.mono h2 fun e w'' he=>?_
                 cases e with
                 | returned u=>exact he
                 | panicked c=>exact he.elim
                 | outgrown=>obtain ⟨_,_,hf⟩:=he; exact hf.elim)
          | halt x w'=>cases x <;> simp only [Oper.upon] at h2 ⊢
        · exact h2.elim
      · rename_i hw
        simp only [hw] at h2
        exact h2
def d5 (P:Program) (ops:Array Oper) (oF:List (Nat×Obj)) (rF:List av) (o:Oper) (v:Value) (a:Act):Prop :=
  (Region.wanted o (yielded ops a.tmps)=true∧∀ w',Mem w' oF rF→fZ P o a w' v)∨(Region.wanted o (yielded ops a.tmps)=false∧v=undef)
theorem d5.of_same {o:Oper} {v:Value} {a a':Act} (hy:d5 P ops oF rF o v a) (he:execOp a'.eval o=execOp a.eval o)
    (hw:Region.wanted o (yielded ops a'.tmps)=Region.wanted o (yielded ops a.tmps)):d5 P ops oF rF o v a':=by
  unfold d5 fZ at *
  rw [he,hw]
  exact hy
theorem d5.canOp {i:Nat} {o:Oper} {v:Value} {a:Act} {w:World} (hi:ops[i]?=some o) (hy:d5 P ops oF rF o v a) {K:Act→World→Prop}
    (h:∀ w',Later w w'→K (a.put o.dst v) w'):iu P ops oF rF i K a w:=by
  intro w' hw' h0
  unfold Go.wpOp
  simp only [hi]
  rcases hy with ⟨hw,hv⟩ | ⟨hw,rfl⟩
  · rw [if_pos hw]
    refine .inl ?_
    have h3:=hv w' h0
    unfold fZ at h3
    unfold Oper.wp
    generalize (execOp a.eval o).run P w'=r at *
    cases r with
    | ok n w1 =>
      cases n <;> simp only [jb] at h3 <;> simp only [Oper.upon]
      case value u=>obtain ⟨rfl,rfl⟩:=h3; exact ⟨h0,h _ hw'⟩
      case skip=>obtain ⟨rfl,rfl⟩:=h3; exact ⟨h0,h _ hw'⟩
      case enter f args =>
        obtain ⟨rfl,hc⟩:=h3
        exact hc.mono fun e w2 ⟨he,hl⟩=>by subst he; exact ⟨Mem.later h0 hl,h _ (hw'.trans hl)⟩
    | halt x w1=>simp only [jb] at h3
  · rw [if_neg (by rw [hw]; exact Bool.false_ne_true)]
    exact ⟨h0,h _ hw'⟩
theorem vi {j:Nat} {oi oj:Oper} {v:Value} (hj:ops[j]?=some oj) (hap:oi.apart ops oj=true)
    (hsi:∀ cs b,oi.op≠.select cs b) (hsj:∀ cs b,oj.op≠.select cs b) {K:Act→World→Prop} {a:Act} {w:World}
    (hy:d5 P ops oF rF oi v a) (h:iu P ops oF rF j K (a.put oi.dst v) w) :
    iu P ops oF rF j (fun a' w'=>d5 P ops oF rF oi v a'∧K (a'.put oi.dst v) w') a w:=by
  obtain ⟨h1,h2,h3⟩:=Oper.apart_spec hap
  intro w' hw' h0
  have keep:∀ (a:Act),d5 P ops oF rF oi v a→∀ u,d5 P ops oF rF oi v (a.put oj.dst u):=fun a hy u =>
    hy.of_same (execOp_put oi hsi a oj.dst u h3) (wanted_put oi a oj.dst u h3)
  have keepD:∀ d,d5 P ops oF rF oi v { a with defers:=d::a.defers }:=fun d=>hy.of_same rfl rfl
  have h:=h w' hw' h0
  unfold Go.wpOp at *
  simp only [hj] at *
  rw [wanted_put oj a oi.dst v h1] at h
  split
  · rename_i hw
    simp only [hw,if_true] at h
    rcases h with h | ⟨hasks,_,_,hlets⟩
    case inr=>exact hlets.elim
    refine .inl ?_
    unfold Oper.wp at *
    rw [execOp_put oj hsj a oi.dst v h1] at h
    generalize (execOp a.eval oj).run P w'=r at *
    cases r with
    | ok n w1 =>
      cases n <;> simp only [Oper.upon] at h ⊢
      case value u=>exact ⟨h.1,keep a hy u,by rw [← Act.put_comm a v u h2]; exact h.2⟩
      case skip=>exact ⟨h.1,keep a hy _,by rw [← Act.put_comm a v undef h2]; exact h.2⟩
      case defer d =>
        refine ⟨h.1,keep _ (keepD d) _,?_⟩
        rw [← Act.put_comm _ v undef h2,← Act.put_defers]
        exact h.2
      case enter f args =>
        refine Calls.mono h fun e w2 he=>?_
        cases e with
        | returned u=>exact ⟨he.1,keep a hy u,by rw [← Act.put_comm a v u h2]; exact he.2⟩
        | panicked c=>exact he
        | outgrown=>exact he
      case row row args=>exact Rows.mono h fun u w2 he=>⟨he.1,keep a hy u,by rw [← Act.put_comm a v u h2]; exact he.2⟩
    | halt x w1 =>
      cases x <;> simp only [Oper.upon] at h ⊢
  · rename_i hw
    simp only [hw] at h
    exact ⟨h.1,keep a hy _,by rw [← Act.put_comm a v undef h2]; exact h.2⟩
theorem rO {n i:Nat} {oi:Oper} {v:Value} {L:Array Bool→Act→World→Prop} (hL:hZ L) (hi:ops[i]?=some oi) (hsel:∀ (j:Nat) (o:Oper) cs b,ops[j]?=some o→o.op≠.select cs b)
    (hnt:∀ listed,HeadInv md ops n listed→listed.getD i true=false→∀ j∈Region.ready md ops listed,j < n)
    (hdone:∀ listed a w,L listed a w→∀ j∈Region.ready md ops listed,n≤j) (hin:i < n) :
    ∀ (f:Nat) (listed:Array Bool) (a:Act) (w:World),HeadInv md ops n listed →
      (∀ j oj,ops[j]?=some oj→j≠i→listed.getD j true=false→(∀ e∈oj.after,Region.binds md e=true→e.on≠i)→oi.apart ops oj=true) →
      i∈Region.ready md ops listed→d5 P ops oF rF oi v a →
      jl P md ops oF rF n L f (listed.setIfInBounds i true) (a.put oi.dst v) w→jl P md ops oF rF n L (f+1) listed a w:=by
  intro f
  induction f with
  | zero =>
    intro listed a w inv _ hr hy H
    have hun:=(mem_ready.1 hr).1
    refine ⟨fun h=>(by rw [h] at hr; cases hr),fun j hj=>?_⟩
    have hjn:=hnt listed inv hun j hj
    refine ⟨hjn,?_⟩
    by_cases hji:j=i
    · subst hji; exact hy.canOp hi fun w' hw'=>hL _ _ _ _ hw' H
    · have:=hdone _ _ _ H j (ready_mono hj hji)
      omega
  | succ f ih =>
    intro listed a w inv hfree hr hy H
    have hun:=(mem_ready.1 hr).1
    refine ⟨fun h=>(by rw [h] at hr; cases hr),fun j hj=>?_⟩
    have hjn:=hnt listed inv hun j hj
    refine ⟨hjn,?_⟩
    by_cases hji:j=i
    · subst hji; exact hy.canOp hi fun w' hw'=>jm hL _ _ _ _ _ hw' H
    · have h1:=(H.2 j (ready_mono hj hji)).2
      obtain ⟨hjun,oj,hoj,hall⟩:=mem_ready.1 hj
      have hnot:∀ e∈oj.after,Region.binds md e=true→e.on≠i:=fun e he hb heq=>by
        have h1:=hall e he hb
        rw [heq,getD_both hun] at h1
        cases h1
      have h2:=vi hoj (hfree j oj hoj hji hjun hnot) (fun cs b=>hsel i oi cs b hi) (fun cs b=>hsel j oj cs b hoj) hy h1
      have hfree':∀ k ok,ops[k]?=some ok→k≠i→(listed.setIfInBounds j true).getD k true=false →
          (∀ e∈ok.after,Region.binds md e=true→e.on≠i)→oi.apart ops ok=true:=fun k ok hk hki hun hno=>by
        refine hfree k ok hk hki ?_ hno
        by_cases hjk:j=k
        · subst hjk; exact hjun
        · rw [getD_set_ne true hjk] at hun; exact hun
      refine tI (fun a' w' h3=>ih (listed.setIfInBounds j true) a' w' (inv.set hj hjn) hfree' (ready_mono hr (Ne.symm hji)) h3.1 ?_) h2
      rw [Array.setIfInBounds_comm _ _ hji]
      exact h3.2
def gu (P:Program) (ops:Array Oper) (oF:List (Nat×Obj)) (rF:List av) (K:Act→World→Prop):Pl→Act→World→Prop
  | .done,a,w=>K a w
  | .flt i t,a,w=>match ops[i]? with
    | none=>False
    | some o=>if Region.wanted o (yielded ops a.tmps) then ∃ v,(∀ w',Mem w' oF rF→fZ P o a w' v)∧gu P ops oF rF K t (a.put o.dst v) w else gu P ops oF rF K t (a.put o.dst undef) w
  | .gr i t e,a,w=>(match ops[i]? with
    | none=>False
    | some o=>if Region.wanted o (yielded ops a.tmps) then ∀ w',Later w w'→o.wp P a w' (fun a'' w''=>Mem w'' oF rF∧gu P ops oF rF K t a'' w'') (fun _ _ _=>False) else gu P ops oF rF K t (a.put o.dst undef) w)∧gu P ops oF rF K e a w
  | .nil,_,_=>True
theorem fN {n:Nat} {Q:Act→World→Prop} (hQ:∀ a w w',Later w w'→Q a w→Q a w') (hsel:Region.noSelect ops=true)
    (hnt:∀ i,i < n→∀ listed,HeadInv md ops n listed→listed.getD i true=false→∀ j∈Region.ready md ops listed,j < n) :
    ∀ (t:Pl) (f:Nat) (listed:Array Bool) (a:Act) (w:World),HeadInv md ops n listed →
      (dz md ops n false f t listed=true→gu P ops oF rF Q t a w→jl P md ops oF rF n (fun listed' a' w'=>Region.seqB md ops (ops.size - n) n listed'=true∧Q a' w') f listed a w) ∧
      (dz md ops n true f t listed=true→gu P ops oF rF Q t a w→∀ j∈t.heads,j∈Region.ready md ops listed→0 < f∧j < n∧iu P ops oF rF j (jl P md ops oF rF n (fun listed' a' w'=>Region.seqB md ops (ops.size - n) n listed'=true∧Q a' w') (f - 1) (listed.setIfInBounds j true)) a w)
  | .done,f,listed,a,w,_=>⟨fun hB h=>by
      simp only [dz,Bool.and_eq_true,decide_eq_true_eq] at hB
      obtain ⟨⟨_,rfl⟩,hB⟩:=hB
      exact ⟨hB,h⟩,fun hB=>by simp [dz] at hB⟩
  | .flt i t,f,listed,a,w,inv=>⟨fun hB h=>by
      simp only [dz,Bool.and_eq_true,decide_eq_true_eq] at hB
      obtain ⟨⟨⟨⟨⟨_,hf⟩,hin⟩,hr⟩,hfr⟩,hB'⟩:=hB
      obtain ⟨g,rfl⟩:∃ g,f=g+1:=⟨f - 1,by omega⟩
      have hr':i∈Region.ready md ops listed:=by simpa using hr
      unfold gu at h
      cases ho:ops[i]? with
      | none=>simp only [ho] at h
      | some o =>
        simp only [ho] at h
        obtain ⟨v,hy,hK⟩:∃ v,d5 P ops oF rF o v a∧gu P ops oF rF Q t (a.put o.dst v) w:=by
          by_cases hw:Region.wanted o (yielded ops a.tmps)=true
          · rw [if_pos hw] at h
            obtain ⟨v,h1,h2⟩:=h
            exact ⟨v,.inl ⟨hw,h1⟩,h2⟩
          · rw [if_neg hw] at h
            exact ⟨undef,.inr ⟨by simpa using hw,rfl⟩,h⟩
        exact rO (fun _ _ _ _ hw hq=>⟨hq.1,hQ _ _ _ hw hq.2⟩) ho (Region.noSelect_spec hsel) (hnt i hin) (fun _ _ _ hL=>seqB_ready hL.1) hin g listed a w inv (Region.free_spec ho hfr) hr' hy
          ((fN hQ hsel hnt t g _ _ _ (inv.set hr' hin)).1 (by simpa using hB') hK),fun hB=>by simp [dz] at hB⟩
  | .gr i t e,f,listed,a,w,inv=>by
      have alt:∀ alt,dz md ops n alt f (.gr i t e) listed=true→gu P ops oF rF Q (.gr i t e) a w→∀ j∈(Pl.gr i t e).heads,j∈Region.ready md ops listed→0 < f∧j < n∧iu P ops oF rF j (jl P md ops oF rF n (fun listed' a' w'=>Region.seqB md ops (ops.size - n) n listed'=true∧Q a' w') (f - 1) (listed.setIfInBounds j true)) a w:=by
        intro alt hB h j hj hjr
        simp only [dz,Bool.and_eq_true,decide_eq_true_eq] at hB
        obtain ⟨⟨⟨⟨_,hf⟩,hin⟩,hB1⟩,hB2⟩:=hB
        unfold gu at h
        obtain ⟨h1,h2⟩:=h
        simp only [Pl.heads,List.mem_cons] at hj
        by_cases hji:j=i
        · subst hji
          refine ⟨hf,hin,fun w' hw' h0=>?_⟩
          cases ho:ops[j]? with
          | none=>simp only [ho] at h1
          | some o =>
            simp only [ho] at h1
            unfold wpOp
            simp only [ho]
            by_cases hw:Region.wanted o (yielded ops a.tmps)=true
            · rw [if_pos hw] at h1 ⊢
              exact .inl (Oper.wp_mono (fun a' w2 hk=>⟨hk.1,(fN hQ hsel hnt t _ _ _ _ (inv.set hjr hin)).1 hB1 hk.2⟩) (h1 w' hw'))
            · rw [if_neg hw] at h1 ⊢
              exact ⟨h0,jm (fun _ _ _ _ hw hq=>⟨hq.1,hQ _ _ _ hw hq.2⟩) _ _ _ _ _ hw' ((fN hQ hsel hnt t _ _ _ _ (inv.set hjr hin)).1 hB1 h1)⟩
        · have hj':j∈e.heads:=by rcases hj with h | h; exact absurd h hji; exact h
          exact (fN hQ hsel hnt e f listed a w inv).2 hB2 h2 j hj' hjr
      refine ⟨fun hB h=>?_,alt true⟩
      have hB0:=hB
      simp only [dz,Bool.and_eq_true,decide_eq_true_eq,Bool.false_or] at hB
      obtain ⟨⟨⟨⟨⟨hall,hne⟩,hf⟩,_⟩,_⟩,_⟩:=hB
      obtain ⟨g,rfl⟩:∃ g,f=g+1:=⟨f - 1,by omega⟩
      refine ⟨fun h0=>by rw [h0] at hne; simp at hne,fun j hj=>?_⟩
      have hjh:j∈(Pl.gr i t e).heads:=by simpa using List.all_eq_true.1 hall j hj
      exact (alt false hB0 h j hjh hj).2
  | .nil,f,listed,a,w,_=>⟨fun hB=>by simp [dz] at hB,fun _ _ j hj=>by simp [Pl.heads] at hj⟩
theorem pU {id:Nat} {Q:Exit→Act→World→Prop} {a:Act} {w:World} {l:List Oper} (n:Nat) (t:Pl) (hm:P.follows .mixedOrders=true)
    (hB:(Region.noSelect l.toArray && (decide (n=l.toArray.size) || (decide (n < l.toArray.size) && Region.sinkB .any l.toArray n && Region.chainB .any l.toArray n)) && dz .any l.toArray n false n t (Array.replicate l.toArray.size false))=true)
    (hw:Mem w oF rF) (h:gu P l.toArray oF rF (fun a' w'=>∀ w'',Later w' w''→wpList P l.toArray Q (l.drop n) a' w'') t a w):(Code.region id l.toArray true).wp P Q a w:=by
  simp only [Bool.and_eq_true] at hB
  obtain ⟨⟨hsel,hn⟩,hpl⟩:=hB
  have hnle:n≤l.toArray.size:=by
    rcases Bool.or_eq_true _ _▸hn with hn | hn
    · simp only [decide_eq_true_eq] at hn; omega
    · simp only [Bool.and_eq_true,decide_eq_true_eq] at hn; omega
  have hnt:∀ i,i < n→∀ listed,HeadInv .any l.toArray n listed→listed.getD i true=false→∀ j∈Region.ready .any l.toArray listed,j < n:=by
    intro i hin listed inv hun j hj
    rcases Bool.or_eq_true _ _▸hn with hn | hn
    · simp only [decide_eq_true_eq] at hn
      have:=nK j hj
      omega
    · simp only [Bool.and_eq_true,decide_eq_true_eq] at hn
      obtain ⟨⟨hn,hs⟩,hc⟩:=hn
      rcases Nat.lt_or_ge j n with h | h
      · exact h
      · exact absurd hj (tail_waits hs hc hn inv _ i rfl hin hun j h)
  have inv0:HeadInv .any l.toArray n (Array.replicate l.toArray.size false) :=
    ⟨by simp,fun j oj _ hl=>(by rw [getD_replicate_false] at hl; cases hl),fun t _ ht=>getD_in (by simpa using ht) (getD_replicate_false _ _)⟩
  have H:=(fN (P:=P) (md:=.any) (oF:=oF) (rF:=rF) (Q:=fun a' w'=>∀ w'',Later w' w''→wpList P l.toArray Q (l.drop n) a' w'') (fun a w w' hw hq w'' hw''=>hq w'' (hw.trans hw'')) hsel hnt t n _ a w inv0).1 hpl h
  refine wp_region_any hm ?_
  have hdl:(l.drop n).length=l.toArray.size - n:=by simp
  have:=kH (Q':=Q) (g:=l.toArray.size - n) (oF:=oF) (rF:=rF) (fun listed a' w' _ hL=>by
    have:=wpAny_of_seq (md:=.any) (Q':=Q) (l.drop n) n listed a' w' (fun j=>by simp [List.getElem?_drop]) (by rw [hdl]; exact hL.1) (hL.2 w' (Later.refl _))
    rwa [hdl] at this) _ _ _ _ (hw.later (Later.drew w)) (jm (fun _ _ _ _ hw hq=>⟨hq.1,fun w2 h2=>hq.2 w2 (hw.trans h2)⟩) _ _ _ _ _ (Later.drew w) H)
  rw [show n+(l.toArray.size - n)=l.toArray.size by omega] at this
  exact this
end
section
variable {P:Program} {n:Nat} {l:List (Nat×Value)} {own oF:List (Nat×Obj)} {ro:List av} {lops:List Oper} {Q:Exit→Act→World→Prop} {K:Act→World→Prop} {i d:Nat} {t e:Pl} {op:Op} {ty:TypeId} {pos:String} {af:Array Edge}
theorem cL {id:Nat} {Q:Exit→Act→World→Prop} (oF:List (Nat×Obj)) (m:Nat) (t:Pl) (hsub:oF.Sublist own) (hm:P.follows .mixedOrders=true)
    (hB:(Region.noSelect lops.toArray && (decide (m=lops.toArray.size) || (decide (m < lops.toArray.size) && Region.sinkB .any lops.toArray m && Region.chainB .any lops.toArray m)) && dz .any lops.toArray m false m t (Array.replicate lops.toArray.size false))=true)
    (h:S (gu P lops.toArray oF ro (fun a' w'=>∀ w'',Later w' w''→wpList P lops.toArray Q (lops.drop m) a' w'') t) n l own ro):W P (.region id lops.toArray true) Q n l own ro :=
  fun a w ha hw=>pU m t hm hB (hw.less hsub (fun _ h=>h)) (h a w ha hw)
theorem j_run {o:Oper} (ho:lops[i]?=some o) (hgo:Go_ lops n l o) (hd0:o.dst=some d) (hd:decide (d < n)=true) {v:Value} (hv:cx P n l oF ro o.op o.type v)
    (h:S (gu P lops.toArray oF ro K t) n ((d,v)::l) own ro):S (gu P lops.toArray oF ro K (.flt i t)) n l own ro:=fun a w ha hw=>by
  have hd':d < n:=of_decide_eq_true hd
  unfold gu
  simp only [List.getElem?_toArray,ho]
  rw [if_pos (hgo a ha)]
  refine ⟨v,fun w' hw'=>?_,by rw [hd0]; exact h _ w (ha.put v hd') hw⟩
  unfold fZ
  rw [hv a w' _ ha hw' rfl rfl]
  exact ⟨rfl,rfl⟩
theorem dq (ho:lops[i]?=some ⟨some d,op,ty,pos,af,none⟩) (hd:decide (d < n)=true) {v:Value} (hv:cx P n l oF ro op ty v)
    (h:S (gu P lops.toArray oF ro K t) n ((d,v)::l) own ro):S (gu P lops.toArray oF ro K (.flt i t)) n l own ro:=j_run ho (bU rfl) rfl hd hv h
theorem vj (ho:lops[i]?=some ⟨some d,op,ty,pos,af,none⟩) (hd:decide (d < n)=true) {b:Bool} (hv:cx P n l oF ro op ty (.bool b))
    (h:∀ c,c=b→S (gu P lops.toArray oF ro K t) n ((d,.bool c)::l) own ro):S (gu P lops.toArray oF ro K (.flt i t)) n l own ro:=dq ho hd hv (h b rfl)
theorem lI {f:FuncId} {fn:Func} {xs:Array Operand} {tys:Array TypeId} {vs:List Value} (ho:lops[i]?=some ⟨some d,.call ⟨.value (.func f),xs,tys⟩,ty,pos,af,none⟩) (hd:decide (d < n)=true)
    (hf:P.funcs[f]?=some fn) (hbody:(!(fn.name == "runtime.NumGoroutine") && fn.body.isSome)=true) (hx:lw l xs.toList=some vs) {v:Value}
    (hc:∀ w,Mem w oF ro→Calls P f vs.toArray w fun e w'=>e=.returned v∧Later w w')
    (h:S (gu P lops.toArray oF ro K t) n ((d,v)::l) own ro):S (gu P lops.toArray oF ro K (.flt i t)) n l own ro:=fun a w ha hw=>by
  have hd':d < n:=of_decide_eq_true hd
  unfold gu
  simp only [List.getElem?_toArray,ho]
  rw [if_pos (bU (lops:=lops) (n:=n) (l:=l) (o:=⟨some d,.call ⟨.value (.func f),xs,tys⟩,ty,pos,af,none⟩) rfl a ha)]
  refine ⟨v,fun w' hw'=>?_,h _ w (ha.put v hd') hw⟩
  unfold fZ
  rw [dO (c:=.func f) (fst:=#[]) (cap:=#[]) rfl ha rfl hf hbody hx]
  have:=hc w' hw'
  exact ⟨rfl,by simpa using this⟩
theorem j_gr (h:WX P lops.toArray (fun _ _ _=>False) (fun a w=>Mem w oF ro∧gu P lops.toArray oF ro K t a w) [(none,i)] n l own ro) (he:S (gu P lops.toArray oF ro K e) n l own ro):S (gu P lops.toArray oF ro K (.gr i t e)) n l own ro:=fun a w ha hw=>by
  have h:=h a w ha hw
  unfold gu
  refine ⟨?_,he a w ha hw⟩
  simp only [hJ] at h
  split <;> rename_i ho <;> simp only [ho] at h
  split <;> rename_i hw'
  · intro w2 h2
    have h:=h w2 h2
    rw [if_pos hw'] at h
    exact Oper.wp_mono (fun a' w' hk=>hk w' (Later.refl _)) h
  · have h:=h w (Later.refl _)
    rw [if_neg hw'] at h
    exact (h w (Later.refl _)).2
theorem dK (hsub:oF.Sublist own) (h:S (gu P lops.toArray oF ro K t) n l own ro):S (fun a w=>Mem w oF ro∧gu P lops.toArray oF ro K t a w) n l own ro:=fun a w ha hw=>⟨hw.less hsub (fun _ h=>h),h a w ha hw⟩
theorem j_nil:S (gu P lops.toArray oF ro K .nil) n l own ro:=fun _ _ _ _=>trivial
theorem j_done {m:Nat} (h:WX P lops.toArray Q (fun a w=>Q .normal a w) (dX m lops.length) n l own ro) :
    S (gu P lops.toArray oF ro (fun a' w'=>∀ w'',Later w' w''→wpList P lops.toArray Q (lops.drop m) a' w'') .done) n l own ro :=
  fun a w ha hw w2 h2=>dW _ m a w2 rfl (j7 h2 (h a w ha hw))
end
end Go.PK

namespace Go.PK
open Go Go.RowKit
class Un (P:Program) (t:TypeId) (d:outParam TypeDesc):Prop where h:P.underlying t=some d
class Sz (P:Program) (t:TypeId) (m:outParam Nat):Prop where h:(P.info? t).map (·.size)=some m
class Zr_ (P:Program) (t:TypeId) (z:outParam Value):Prop where h:(P.info? t).bind (·.zero)=some z
abbrev fU {P:Program} {t:TypeId} {d:TypeDesc} (_:P.underlying t=some d):Prop:=Un P t d
abbrev kb {P:Program} {t:TypeId} {m:Nat} (_:(P.info? t).map (·.size)=some m):Prop:=Sz P t m
abbrev mn {P:Program} {t:TypeId} {z:Value} (_:(P.info? t).bind (·.zero)=some z):Prop:=Zr_ P t z
section
variable {P:Program} {n:Nat} {l:List (Nat×Value)} {own:List (Nat×Obj)} {ro:List av} {ty t:TypeId} {x:Operand}
theorem cM {fs:Array Field} {f:Field} {j m b off off':Nat} (ht:P.underlying t=some (.struct fs)) (hf:fs.toList[j]?=some f) (hs:(P.info? f.type).map (·.size)=some m) (hm:m≠0) (hx:ev l x=some (.pointer (some ⟨b,off,none⟩))) (ho':off+f.offset=off') :
    cx P n l own ro (.fieldAddr t x j) ty (.pointer (some ⟨b,off',none⟩)):=jM ht (by simpa using hf) hs hm hx ho'
theorem mU {td:TypeDesc} {b m:Nat} {cs:Array Value} {e:TypeId} {fz:Nat×Nat} (ht:P.underlying t=some td) (hd:jD td=true) (hx:ev l x=some (.pointer (some ⟨b,0,none⟩))) (hs:(P.info? t).map (·.size)=some m) (hb:(b,Obj.cells (Value.agg cs).cells e fz)∈own) (hm:cs.size=m) :
    cx P n l own ro (.load t x) ty (.agg cs):=bS ht hd hx hb (by rw [hm]; exact hs)
end
theorem Zw {P:Program} {n:Nat} {l l':List (Nat×Value)} {own own':List (Nat×Obj)} {ro ro':List av} {c:Code} {Q:Exit→Act→World→Prop} (h:W P c Q n l' own' ro') (e1:l=l':=by first | (dsimp only; done) | (dsimp only; exact rfl) | exact rfl) (e2:own=own':=by first | (dsimp only; done) | (dsimp only; exact rfl) | exact rfl) (e3:ro=ro':=by first | (dsimp only; done) | (dsimp only; exact rfl) | exact rfl):W P c Q n l own ro:=by rw [e1,e2,e3]; exact h
theorem Atl {p:Prop} (h:p:=by first | exact aa (.head _) rfl | exact aa (.tail _ (.head _)) rfl | exact aa (.tail _ (.tail _ (.head _))) rfl | exact aa (.tail _ (.tail _ (.tail _ (.head _)))) rfl | (apply aa; ((repeat (first | exact List.Mem.head _ | apply List.Mem.tail | apply List.mem_append_right))); rfl)):p:=h
theorem Lbm {p:Prop} (h:p:=by (first | exact .head _ | exact .tail _ (.head _) | exact .tail _ (.tail _ (.head _)) | exact .tail _ (.tail _ (.tail _ (.head _))) | (repeat (first | exact List.Mem.head _ | apply List.Mem.tail | apply List.mem_append_right)))):p:=h
structure Bx (c:List Nat) (q:Prop):Prop where v:q
theorem bM {c:List Nat} {x:Bool} {Q:∀ b,b=x→Prop} {G:Bool→Prop} (h:Bx c (∀ b (hb:b=x),Q b hb)) (k:∀ b (hb:b=x),Bx c (Q b hb)→G b):∀ b,b=x→G b:=fun b hb=>k b hb ⟨h.v b hb⟩
theorem pM {c:List Nat} {Q G:Nat→Prop} (h:Bx c (∀ b,Q b)) (k:∀ b,Bx c (Q b)→G b):∀ b,G b:=fun b=>k b ⟨h.v b⟩
theorem w_condR {P:Program} {n:Nat} {l:List (Nat×Value)} {own:List (Nat×Obj)} {ro:List av} {Q:Exit→Act→World→Prop} {c:Operand} {x y:Code} {t:Bool} (hc:ev l c=some (.bool t)) (h:(t=true→W P x Q n l own ro)∧(t=false→W P y Q n l own ro)):W P (.cond c x y) Q n l own ro:=rq hc h.1 h.2
theorem w_condS {P:Program} {n:Nat} {l:List (Nat×Value)} {own:List (Nat×Obj)} {ro:List av} {Q:Exit→Act→World→Prop} {c:Operand} {x y:Code} {t:Bool} {A B:Prop} (hc:ev l c=some (.bool t)) (e1:t=true→A) (e2:t=false→B) (h:(A→W P x Q n l own ro)∧(B→W P y Q n l own ro)):W P (.cond c x y) Q n l own ro:=rq hc (fun k=>h.1 (e1 k)) fun k=>h.2 (e2 k)
theorem dN (n:Nat) {c:List Nat} {q:Prop} (h:Bx (n::c) q):Bx c q:=⟨h.v⟩
theorem Rn (c:List Nat) {p q:Prop} (h:q) (e:Bx c q→p:=by
    intro h
    have s:=Qz
    repeat (first
    | (replace h:=dN 0 h; refine Xm ?_)
    | (replace h:=dN 1 h; refine Xa ?_)
    | (replace h:=dN 2 h; refine Ze (Zt ?_))
    | (replace h:=dN 3 h; refine Zs (Zr ?_))
    | (replace h:=dN 4 h; refine eU rfl rfl rfl (cM Un.h rfl Sz.h (by decide) rfl (by (try simp only [Nat.zero_add,Nat.add_zero,Nat.reduceAdd]); exact rfl)) ?_)
    | (replace h:=dN 5 h; refine Zs ?_)
    | (replace h:=dN 6 h; refine w_ret ?_)
    | (replace h:=dN 7 h; refine eU rfl rfl rfl (aW Un.h rfl rfl Atl) ?_)
    | (replace h:=dN 8 h; refine t_ret ?_)
    | (replace h:=dN 9 h; refine Ze (Zt (Zs (Zr ?_))))
    | (replace h:=dN 10 h; refine w_condR rfl ?_)
    | (replace h:=dN 11 h; refine Xn ?_)
    | (replace h:=dN 12 h; refine w_condS rfl (fun k=>by simp only [s,ne_eq] at k; exact k) (fun k=>by simp only [s,ne_eq] at k; exact k) ?_)
    | (replace h:=dN 13 h; refine Ze ?_)
    | (replace h:=dN 14 h; refine nn ?_)
    | (replace h:=dN 15 h; refine b_ret ?_)
    | (replace h:=dN 16 h; refine eA (Zt ?_))
    | (replace h:=dN 17 h; refine Zt ?_)
    | (replace h:=dN 18 h; refine Zr ?_)
    | (replace h:=dN 19 h; refine t_exit ?_)
    | (replace h:=dN 20 h; refine Xe ?_)
    | (replace h:=dN 21 h; refine Xi rfl rfl rfl (fun hg0=>by (try rw [hg0]); (try simp only [Qy]); exact eC rfl) ?_)
    | (replace h:=dN 22 h; refine Xi rfl rfl rfl (fun hg0=>by (try rw [hg0]); (try simp only [Qy]); exact cM Un.h rfl Sz.h (by decide) rfl (by (try simp only [Nat.zero_add,Nat.add_zero,Nat.reduceAdd]); exact rfl)) ?_)
    | (replace h:=dN 23 h; refine eA (Zt (Zs (Zr ?_))))
    | (replace h:=dN 24 h; refine eB rfl rfl rfl (v_lss rfl rfl) ?_; refine bM h fun b hb h=>?_; have s:=And.intro hb s)
    | (replace h:=dN 25 h; refine eB rfl rfl rfl (v_or rfl rfl) ?_; refine bM h fun b hb h=>?_; have s:=And.intro hb s)
    | (replace h:=dN 26 h; refine eU rfl rfl rfl (bg rfl rfl rfl Zo) ?_)
    | (replace h:=dN 27 h; refine b_norm ?_)
    | (replace h:=dN 28 h; refine x_alloc rfl rfl rfl Zr_.h ?_; refine pM h fun b h=>?_)
    | (replace h:=dN 29 h; refine cz rfl rfl rfl rfl rfl (eC rfl) ?_)
    | (replace h:=dN 30 h; refine eB rfl rfl rfl (lz rfl rfl) ?_; refine bM h fun b hb h=>?_; have s:=And.intro hb s)
    | (replace h:=dN 31 h; refine eU rfl rfl rfl (jK Un.h rfl) ?_)
    | (replace h:=dN 32 h; refine bX [] rfl rfl rfl rfl Sz.h rfl rfl ?_)
    | (replace h:=dN 33 h; refine x_no rfl rfl rfl rfl rfl ?_)
    | (replace h:=dN 34 h; refine w_exit ?_)
    | (replace h:=dN 35 h; refine b_hit ?_)
    | (replace h:=dN 36 h; refine x_box rfl rfl rfl rfl ?_; refine pM h fun b h=>?_)
    | (replace h:=dN 37 h; refine eB rfl rfl rfl (tu rfl rfl) ?_; refine bM h fun b hb h=>?_; have s:=And.intro hb s)
    | (replace h:=dN 38 h; refine eB rfl rfl rfl (mS rfl rfl) ?_; refine bM h fun b hb h=>?_; have s:=And.intro hb s)
    | (replace h:=dN 39 h; refine eU rfl rfl rfl (mU Un.h rfl rfl Sz.h Lbm (by exact rfl)) ?_)
    | (replace h:=dN 40 h; refine Xi rfl rfl rfl (fun hg0=>by (try rw [hg0]); (try simp only [Qy]); exact aW Un.h rfl rfl Atl) ?_)
    | (replace h:=dN 41 h; refine dq rfl rfl (cM Un.h rfl Sz.h (by decide) rfl (by (try simp only [Nat.zero_add,Nat.add_zero,Nat.reduceAdd]); exact rfl)) ?_)
    | (replace h:=dN 42 h; refine j_gr ?_ j_nil)
    | (replace h:=dN 43 h; refine eB rfl rfl rfl (tt rfl) ?_; refine bM h fun b hb h=>?_; have s:=And.intro hb s)
    | (replace h:=dN 44 h; refine dq rfl rfl (eC rfl) ?_)
    | (replace h:=dN 45 h; refine eA ?_)
    | (replace h:=dN 46 h; refine eU rfl rfl rfl (ae Un.h Sz.h rfl rfl Zo rfl) ?_)
    | (replace h:=dN 47 h; refine cz rfl rfl rfl rfl rfl (cM Un.h rfl Sz.h (by decide) rfl (by (try simp only [Nat.zero_add,Nat.add_zero,Nat.reduceAdd]); exact rfl)) ?_)
    | (replace h:=dN 48 h; refine eB rfl rfl rfl (eI rfl rfl) ?_; refine bM h fun b hb h=>?_; have s:=And.intro hb s)
    | (replace h:=dN 49 h; refine dq rfl rfl (aW Un.h rfl rfl Atl) ?_)
    | (replace h:=dN 50 h; refine cz rfl rfl rfl rfl rfl (aW Un.h rfl rfl Atl) ?_)
    | (replace h:=dN 51 h; refine eU rfl rfl rfl (Vl Un.h rfl) ?_)
    | (replace h:=dN 52 h; refine eU (v:=Value.bool false) rfl rfl rfl (gC (o:=some _) Un.h rfl rfl) ?_)
    | (replace h:=dN 53 h; refine eU rfl rfl rfl (qd Un.h rfl) ?_)
    | (replace h:=dN 54 h; refine eU rfl rfl rfl (dH rfl rfl rfl Zo) ?_)
    | (replace h:=dN 55 h; refine dq rfl rfl (gx rfl) ?_)
    | (replace h:=dN 56 h; refine j_done ?_)
    | (replace h:=dN 57 h; refine eB rfl rfl rfl (v_geq rfl rfl) ?_; refine bM h fun b hb h=>?_; have s:=And.intro hb s)
    | (replace h:=dN 58 h; refine dK Ls ?_)
    | (replace h:=dN 59 h; refine Xi rfl rfl rfl (fun hg0=>by (try rw [hg0]); (try simp only [Qy]); exact gA rfl) ?_)
    | (replace h:=dN 60 h; refine eB rfl rfl rfl (wz rfl rfl) ?_; refine bM h fun b hb h=>?_; have s:=And.intro hb s)
    | (replace h:=dN 61 h; refine Xi rfl rfl rfl (fun hg0=>by (try rw [hg0]); (try simp only [Qy]); exact jK Un.h rfl) ?_)
    | (replace h:=dN 62 h; refine eB rfl rfl rfl (gC (o:=some ⟨_,0,none⟩) Un.h rfl rfl) ?_; refine bM h fun b hb h=>?_; have s:=And.intro hb s)
    | (replace h:=dN 63 h; refine Xj rfl rfl rfl (fun hg0=>by (try rw [hg0]); (try simp only [Qy]); exact wz rfl rfl) ?_; refine bM h fun b hb h=>?_; have s:=And.intro hb s)
    | (replace h:=dN 64 h; refine Xj rfl rfl rfl (fun hg0=>by (try rw [hg0]); (try simp only [Qy]); exact tt rfl) ?_; refine bM h fun b hb h=>?_; have s:=And.intro hb s)
    | (replace h:=dN 65 h; refine dq rfl rfl (gA rfl) ?_)
    | (replace h:=dN 66 h; refine dK (.cons_cons _ (.cons_cons _ (List.nil_sublist _))) ?_)
    | (replace h:=dN 67 h; refine Xj rfl rfl rfl (fun hg0=>by (try rw [hg0]); (try simp only [Qy]); exact nM rfl rfl) ?_; refine bM h fun b hb h=>?_; have s:=And.intro hb s)
    | (replace h:=dN 68 h; refine db rfl rfl rfl rfl rfl (wz rfl rfl) ?_; refine bM h fun b hb h=>?_; have s:=And.intro hb s)
    | (replace h:=dN 69 h; refine Xj rfl rfl rfl (fun hg0=>by (try rw [hg0]); (try simp only [Qy]); exact v_geq rfl rfl) ?_; refine bM h fun b hb h=>?_; have s:=And.intro hb s)
    | (replace h:=dN 70 h; refine db rfl rfl rfl rfl rfl (mS rfl rfl) ?_; refine bM h fun b hb h=>?_; have s:=And.intro hb s)
    | (replace h:=dN 71 h; refine fV _ rfl rfl rfl rfl rfl (fun hg=>by obtain ⟨hg0,hg1,_⟩:=hg; (try rw [hg0]); (try rw [hg1]); (try simp only [Qy]); exact eC rfl) ?_)
    | (replace h:=dN 72 h; refine Xj rfl rfl rfl (fun hg0=>by (try rw [hg0]); (try simp only [Qy]); exact v_lss rfl rfl) ?_; refine bM h fun b hb h=>?_; have s:=And.intro hb s)
    | (replace h:=dN 73 h; refine Xj rfl rfl rfl (fun hg0=>by (try rw [hg0]); (try simp only [Qy]); exact mS rfl rfl) ?_; refine bM h fun b hb h=>?_; have s:=And.intro hb s)
    | (replace h:=dN 74 h; refine Xj rfl rfl rfl (fun hg0=>by (try rw [hg0]); (try simp only [Qy]); exact tu rfl rfl) ?_; refine bM h fun b hb h=>?_; have s:=And.intro hb s)
    | (replace h:=dN 75 h; refine eU (v:=Value.bool true) rfl rfl rfl (gC (o:=none) Un.h rfl rfl) ?_)
    | (replace h:=dN 76 h; refine db rfl rfl rfl rfl rfl (v_lss rfl rfl) ?_; refine bM h fun b hb h=>?_; have s:=And.intro hb s)
    | (replace h:=dN 77 h; refine dq rfl rfl (eI rfl rfl) ?_)
    | (replace h:=dN 78 h; refine vj rfl rfl (eI rfl rfl) ?_; refine bM h fun b hb h=>?_; have s:=And.intro hb s)
    | (replace h:=dN 79 h; refine db rfl rfl rfl rfl rfl (tu rfl rfl) ?_; refine bM h fun b hb h=>?_; have s:=And.intro hb s)
    | (replace h:=dN 80 h; refine Xi rfl rfl rfl (fun hg0=>by (try rw [hg0]); (try simp only [Qy]); exact dH rfl rfl rfl Zo) ?_)
    | (replace h:=dN 81 h; refine Xj rfl rfl rfl (fun hg0=>by (try rw [hg0]); (try simp only [Qy]); exact lz rfl rfl) ?_; refine bM h fun b hb h=>?_; have s:=And.intro hb s)
    | (replace h:=dN 82 h; refine cz rfl rfl rfl rfl rfl (gA rfl) ?_)
    | (replace h:=dN 83 h; refine Xi rfl rfl rfl (fun hg0=>by (try rw [hg0]); (try simp only [Qy]); exact qd Un.h rfl) ?_)
    | (replace h:=dN 84 h; refine dq rfl rfl (mU Un.h rfl rfl Sz.h Lbm (by exact rfl)) ?_)
    | (replace h:=dN 85 h; refine eB rfl rfl rfl (nM rfl rfl) ?_; refine bM h fun b hb h=>?_; have s:=And.intro hb s)
    | (replace h:=dN 86 h; refine cz rfl rfl rfl rfl rfl (dH rfl rfl rfl Zo) ?_)
    | (replace h:=dN 87 h; refine cz rfl rfl rfl rfl rfl (jK Un.h rfl) ?_)
    | (replace h:=dN 88 h; refine db rfl rfl rfl rfl rfl (rx rfl rfl) ?_; refine bM h fun b hb h=>?_; have s:=And.intro hb s)
    | (replace h:=dN 89 h; refine cz rfl rfl rfl rfl rfl (ae Un.h Sz.h rfl rfl Zo rfl) ?_)
    | (replace h:=dN 90 h; refine Xi rfl rfl rfl (fun hg0=>by (try rw [hg0]); (try simp only [Qy]); exact Vl Un.h rfl) ?_)
    | (replace h:=dN 91 h; refine db rfl rfl rfl rfl rfl (vd rfl rfl) ?_; refine bM h fun b hb h=>?_; have s:=And.intro hb s)
    | (replace h:=dN 92 h; refine Xj rfl rfl rfl (fun hg0=>by (try rw [hg0]); (try simp only [Qy]); exact rx rfl rfl) ?_; refine bM h fun b hb h=>?_; have s:=And.intro hb s)
    | (replace h:=dN 93 h; refine Xj rfl rfl rfl (fun hg0=>by (try rw [hg0]); (try simp only [Qy]); exact v_or rfl rfl) ?_; refine bM h fun b hb h=>?_; have s:=And.intro hb s)
    | (replace h:=dN 94 h; refine fV _ rfl rfl rfl rfl rfl (fun hg=>by obtain ⟨hg0,hg1,_⟩:=hg; (try rw [hg0]); (try rw [hg1]); (try simp only [Qy]); exact gA rfl) ?_)
    | (replace h:=dN 95 h; refine fV _ rfl rfl rfl rfl rfl (fun hg=>by obtain ⟨hg0,hg1,_⟩:=hg; (try rw [hg0]); (try rw [hg1]); (try simp only [Qy]); exact cM Un.h rfl Sz.h (by decide) rfl (by (try simp only [Nat.zero_add,Nat.add_zero,Nat.reduceAdd]); exact rfl)) ?_)
    | (replace h:=dN 96 h; refine fV _ rfl rfl rfl rfl rfl (fun hg=>by obtain ⟨hg0,hg1,_⟩:=hg; (try rw [hg0]); (try rw [hg1]); (try simp only [Qy]); exact aW Un.h rfl rfl Atl) ?_)
    | (replace h:=dN 97 h; refine db rfl rfl rfl rfl rfl (lz rfl rfl) ?_; refine bM h fun b hb h=>?_; have s:=And.intro hb s)
    | (replace h:=dN 98 h; refine eB rfl rfl rfl (vd rfl rfl) ?_; refine bM h fun b hb h=>?_; have s:=And.intro hb s)
    | (replace h:=dN 99 h; refine eB rfl rfl rfl (rx rfl rfl) ?_; refine bM h fun b hb h=>?_; have s:=And.intro hb s)
    | (replace h:=dN 100 h; refine db rfl rfl rfl rfl rfl (tt rfl) ?_; refine bM h fun b hb h=>?_; have s:=And.intro hb s)
    | (replace h:=dN 101 h; refine db rfl rfl rfl rfl rfl (nM rfl rfl) ?_; refine bM h fun b hb h=>?_; have s:=And.intro hb s)
    | (replace h:=dN 102 h; refine eB rfl rfl rfl (gC Un.h rfl rfl) ?_; refine bM h fun b hb h=>?_; have s:=And.intro hb s)
    | (replace h:=dN 104 h; refine db rfl rfl rfl rfl rfl (v_or rfl rfl) ?_; refine bM h fun b hb h=>?_; have s:=And.intro hb s)
    | (replace h:=dN 106 h; refine Xi rfl rfl rfl (fun hg0=>by (try rw [hg0]); (try simp only [Qy]); exact ae Un.h Sz.h rfl rfl Zo rfl) ?_)
    | (replace h:=dN 107 h; refine db rfl rfl rfl rfl rfl (gC (o:=some ⟨_,0,none⟩) Un.h rfl rfl) ?_; refine bM h fun b hb h=>?_; have s:=And.intro hb s)
    | (replace h:=dN 108 h; refine Xj rfl rfl rfl (fun hg0=>by (try rw [hg0]); (try simp only [Qy]); exact vd rfl rfl) ?_; refine bM h fun b hb h=>?_; have s:=And.intro hb s)
    | (replace h:=dN 144 h; refine Zw ?_)
    | (replace h:=dN 152 h; refine eU rfl rfl rfl (cM Un.h rfl Sz.h (by decide) rfl (by (try simp only [Nat.reduceAdd]); exact rfl)) ?_)
    | (replace h:=dN 153 h; refine Xi rfl rfl rfl (fun hg0=>by (try rw [hg0]); (try simp only [Qy]); exact cM Un.h rfl Sz.h (by decide) rfl (by (try simp only [Nat.reduceAdd]); exact rfl)) ?_)
    | (replace h:=dN 154 h; refine cz rfl rfl rfl rfl rfl (cM Un.h rfl Sz.h (by decide) rfl (by (try simp only [Nat.reduceAdd]); exact rfl)) ?_)
    | (replace h:=dN 155 h; refine dq rfl rfl (cM Un.h rfl Sz.h (by decide) rfl (by (try simp only [Nat.reduceAdd]); exact rfl)) ?_))
    exact Bx.v (c:=[]) h):p:=e ⟨h⟩
theorem Aw {a b c d:Prop} (h:a→b) (k:c→d):(a→b)∧(c→d):=⟨h,k⟩
section
variable {P:Program} {n:Nat} {l:List (Nat×Value)} {own:List (Nat×Obj)} {ro:List av} {lops:List Oper} {Q:Exit→Act→World→Prop} {K:Act→World→Prop} {rest:List (Option Bool×Nat)} {k:Option Bool} {i d:Nat} {ty:TypeId} {pos:String} {af:Array Edge} {f:FuncId} {fn:Func} {xs:Array Operand} {tys:Array TypeId} {vs:List Value}
theorem Xc (ho:lops[i]?=some ⟨some d,.call ⟨.value (.func f),xs,tys⟩,ty,pos,af,none⟩) (hf:P.funcs[f]?=some fn) (hx:lw l xs.toList=some vs) {v:Value} (hc:∀ w,Mem w own ro→Calls P f vs.toArray w fun e w'=>e=.returned v∧Later w w') (h:WX P lops.toArray Q K rest n ((d,v)::l) own ro)
    (hk:k.getD true=true:=by exact rfl) (hd:decide (d < n)=true:=by exact rfl) (hbody:(!(fn.name == "runtime.NumGoroutine") && fn.body.isSome)=true:=by kernel_rfl):WX P lops.toArray Q K ((k,i)::rest) n l own ro:=np ho hk hd hf hbody hx hc h
theorem Xh (ho:lops[i]?=some ⟨some d,.call ⟨.value (.func f),xs,tys⟩,ty,pos,af,none⟩) (hf:P.funcs[f]?=some fn) (hx:lw l xs.toList=some vs) {b:Bool} (hc:∀ w,Mem w own ro→Calls P f vs.toArray w fun e w'=>e=.returned (.bool b)∧Later w w') (h:∀ c,c=b→WX P lops.toArray Q K rest n ((d,.bool c)::l) own ro)
    (hk:k.getD true=true:=by exact rfl) (hd:decide (d < n)=true:=by exact rfl) (hbody:(!(fn.name == "runtime.NumGoroutine") && fn.body.isSome)=true:=by kernel_rfl):WX P lops.toArray Q K ((k,i)::rest) n l own ro:=AC ho hk hd hf hbody hx hc h
theorem Xd (ho:lops[i]?=some ⟨some d,.call ⟨.value (.func f),xs,tys⟩,ty,pos,af,none⟩) (hf:P.funcs[f]?=some fn) (hx:lw l xs.toList=some vs) {R:Value→World→World→Prop} (hc:∀ w,Mem w own ro→Calls P f vs.toArray w fun e w'=>∃ v,e=.returned v∧Later w w'∧R v w w') (h:∀ v w1 w2,Mem w1 own ro→Later w1 w2→R v w1 w2→WX P lops.toArray Q K rest n ((d,v)::l) own ((w2,a7 own)::ro))
    (hk:(k == some true)=false:=by exact rfl) (hd:decide (d < n)=true:=by exact rfl) (hbody:(!(fn.name == "runtime.NumGoroutine") && fn.body.isSome)=true:=by kernel_rfl):WX P lops.toArray Q K ((k,i)::rest) n l own ro:=x_call ho hk hd hf hbody hx hc h
theorem bc {id:Nat} (m:Nat) (h:WX P lops.toArray Q (fun a w=>Q .normal a w) (((List.range' 0 m).map fun i=>(some true,i))++dX m lops.length) n l own ro) (hm:P.follows .mixedOrders=true:=by kernel_rfl) (hB:An .any lops.toArray m ((List.range' 0 m).map fun i=>(true,i))=true:=by kernel_rfl):W P (.region id lops.toArray true) Q n l own ro :=
  ew m ((List.range' 0 m).map fun i=>(true,i)) hm hB (by rw [List.map_map]; exact h)
end
theorem oI {P:Program} {ops:Array Oper} {n:Nat} {l:List (Nat×Value)} {own:List (Nat×Obj)} {ro:List av} {Q:Exit→Act→World→Prop} {K:Act→World→Prop} {rest:List (Option Bool×Nat)} {k:Option Bool} {j:Nat} (i:Nat) (h:WX P ops Q K ((k,j)::rest) n l own ro) (e:i=j:=by exact rfl):WX P ops Q K ((k,j)::rest) n l own ro:=h
theorem oS {n:Nat} {l:List (Nat×Value)} {own:List (Nat×Obj)} {ro:List av} {K:Act→World→Prop} (h:S K n l own ro):S K n l own ro:=h
theorem Mem.b {w:World} {own:List (Nat×Obj)} {ro:List av} (h:Mem w own ro) {w0:World} (hs:(w0,fun _=>True)∈ro:=by simp):Later w0 w:=h.base hs
theorem Ls {α:Type} {a:α} {l:List α}:l.Sublist (a::l):=List.sublist_cons_self _ _
end Go.PK

namespace Go.PK
open Go Go.RowKit
def tyB:Ty UInt8 where
  size:=1
  rd:=fun _ _ cs x=>cs=[.int .u8 (x.toNat:Nat)]
  len:=fun h=>by rw [h]; rfl
  keep:=fun h _=>h
theorem row1_T {α:Type} {T:Ty α} {D:Nat→Prop} {ws:World} {r:ak} {xs:List α} {n:Nat} (f:α→Value) (hs:T.size=1) (hr:ag 1 r n (xs.map f)) (hn:n=xs.length) (hT:∀ x∈xs,T.rd D ws [f x] x):cZ T D ws r xs:=by
  subst hn
  refine ⟨xs.map fun x=>[f x],by simp,?_,fun j h1 h2=>?_⟩
  · have e:(xs.map fun x=>[f x]).flatten=xs.map f:=by
      clear hr hT
      induction xs with
      | nil=>rfl
      | cons x xs ih=>simp [ih]
    rw [e,hs]; exact hr
  · rw [List.getElem_map]; exact hT _ (List.getElem_mem h2)
theorem wU {α:Type} {T:Ty α} {D:Nat→Prop} {w:World} {own:List (Nat×Obj)} {ro:List av} {e:TypeId} {r:ak} {xs:List α} {n:Nat} (f:α→Value) (hs:T.size=1) (hr:ag 1 r n (xs.map f)) (hn:n=xs.length) (hT:∀ D' ws,∀ x∈xs,T.rd D' ws [f x] x)
    (hm:Mem w own ro) (hin:∀ p∈aA e r,p∈own) (hD:∀ p∈aA e r,D p.1):ab T D w (au r n) xs :=
  (row1_T (D:=fun _=>False) (ws:=w) f hs hr hn (hT _ _)).rd hm hin (fun _ h=>h.elim) hD hn
theorem b_at {D:Nat→Prop} {w:World} {A:Option Addr} {l c:Nat} {xs:List UInt8} (h:ab tyB D w (.slice A l c) xs) {k:Nat} (hk:k < xs.length) :
    ∃ b off,A=some ⟨b,off,none⟩∧D b∧w.cell? ⟨b,off+k,none⟩=some (.int .u8 (xs[k].toNat:Nat)):=by
  obtain ⟨A',c',e,h1,h2,h3⟩:=h
  injection e with e1 e2 e3
  obtain ⟨b,off,hA,hD,hb,hc⟩:=h3 (by omega)
  obtain ⟨cs,hcs,hok⟩:=hc k hk
  have hok:cs=[.int .u8 (xs[k].toNat:Nat)]:=hok
  subst hok
  have:=hcs 0 (by simp)
  exact ⟨b,off,e1.trans hA,hD,by simpa [tyB] using this⟩
theorem od {D:Nat→Prop} {w:World} {A:Option Addr} {l c:Nat} {xs:List ByteArray} (h:ab aX D w (.slice A l c) xs) {k:Nat} (hk:k < xs.length) :
    ∃ b off,A=some ⟨b,off,none⟩∧D b∧w.cell? ⟨b,off+k,none⟩=some (.string xs[k])∧iD xs[k]:=by
  obtain ⟨A',c',e,h1,h2,h3⟩:=h
  injection e with e1 e2 e3
  obtain ⟨b,off,hA,hD,hb,hc⟩:=h3 (by omega)
  obtain ⟨cs,hcs,hok⟩:=hc k hk
  obtain ⟨hok,hs⟩:cs=[.string xs[k]]∧iD xs[k]:=hok
  subst hok
  have:=hcs 0 (by simp)
  exact ⟨b,off,e1.trans hA,hD,by simpa [aX] using this,hs⟩
theorem qy {α:Type} {T:Ty α} {D:Nat→Prop} {w:World} {A:Option Addr} {l c:Nat} {xs:List (List α)} (h:ab (aP T) D w (.slice A l c) xs) {k:Nat} (hk:k < xs.length) :
    ∃ b off v,A=some ⟨b,off,none⟩∧D b∧w.cell? ⟨b,off+k,none⟩=some v∧ab T D w v xs[k]:=by
  obtain ⟨A',c',e,h1,h2,h3⟩:=h
  injection e with e1 e2 e3
  obtain ⟨b,off,hA,hD,hb,hc⟩:=h3 (by omega)
  obtain ⟨cs,hcs,hok⟩:=hc k hk
  obtain ⟨v,hv,hr⟩:∃ v,cs=[v]∧ab T D w v xs[k]:=hok
  subst hv
  have:=hcs 0 (by simp)
  exact ⟨b,off,v,e1.trans hA,hD,by simpa [aP] using this,hr⟩
def vm (l:List UInt8) (c:UInt8):Bool:=l.any (fun x=>decide (c=x))
theorem cap_a (c:UInt8):(decide (((c.toNat:Nat):Int)≥65) && decide (((c.toNat:Nat):Int)≤90))=eD c:=by
  unfold eD; rw [← Bool.decide_and]; exact decide_eq_decide.2 (by omega)
def mX (c:UInt8):Bool:=decide (c=58) || decide (c=43) || decide (c=63) || decide (c=39)
theorem rT (c k:UInt8) {z:Int} (hz:z=(k.toNat:Nat)):decide (((c.toNat:Nat):Int)=z)=decide (c=k):=by subst hz; exact decide_eq_decide.2 s5
theorem sign_a (c:UInt8):(decide (((c.toNat:Nat):Int)=58) || decide (((c.toNat:Nat):Int)=43) || decide (((c.toNat:Nat):Int)=63) || decide (((c.toNat:Nat):Int)=39))=mX c:=by
  unfold mX; rw [rT (z:=58) c 58 rfl,rT (z:=43) c 43 rfl,rT (z:=63) c 63 rfl,rT (z:=39) c 39 rfl]
def clr (c:UInt8):UInt8:=UInt8.ofNat (lF .u8 (c.toNat:Nat) 32).toNat
theorem wV:∀ c:Fin 256,lF .u8 (c.val:Nat) 32=((clr (UInt8.ofNat c.val)).toNat:Nat)∧(eD (clr (UInt8.ofNat c.val))=true↔(65≤c.val∧c.val≤90)∨(97≤c.val∧c.val≤122)):=by decide +kernel
theorem clr_val (c:UInt8):lF .u8 (c.toNat:Nat) 32=((clr c).toNat:Nat):=by
  have:=(wV ⟨c.toNat,c.toNat_lt⟩).1
  simpa using this
theorem wW (c:UInt8):eD (clr c)=true↔(65≤c.toNat∧c.toNat≤90)∨(97≤c.toNat∧c.toNat≤122):=by
  have:=(wV ⟨c.toNat,c.toNat_lt⟩).2
  simpa using this
def gl (g:Sg):List UInt8:=[g.c,g.e,g.r,g.n]
def jz (l:List UInt8) (k:Nat):Prop:=iK (l.getD k 0)∨vm (l.take k) (l.getD k 0)=true
instance (l:List UInt8) (k:Nat):Decidable (jz l k):=by unfold jz; infer_instance
def mp (l:List UInt8):Nat→Prop
  | 0=>True
  | k+1=>mp l k∧¬jz l k
theorem kc {l:List UInt8}:∀ {m k:Nat},k < m→mp l m→¬jz l k
  | 0,_,h,_=>by omega
  | m+1,k,h,hr=>by
    rcases Nat.lt_succ_iff_lt_or_eq.1 h with h | rfl
    · exact kc h hr.1
    · exact hr.2
theorem gJ (g:Sg):eX g↔mp (gl g) 4:=by
  obtain ⟨c,e,r,n⟩:=g
  simp only [eX,mp,jz,gl,vm,List.getD_cons_zero,List.getD_cons_succ,List.take_zero,List.take_succ_cons,List.any_nil,List.any_cons,Bool.or_eq_true,decide_eq_true_eq,not_or,Bool.false_eq_true,or_false,true_and,ne_eq]
  constructor
  · rintro ⟨⟨h1,h2,h3,h4⟩,h5,⟨h6,h7⟩,h8,h9,h10⟩
    exact ⟨⟨⟨h1,h2,h5⟩,h3,h6,h7⟩,h4,h8,h9,h10⟩
  · rintro ⟨⟨⟨h1,h2,h5⟩,h3,h6,h7⟩,h4,h8,h9,h10⟩
    exact ⟨⟨h1,h2,h3,h4⟩,h5,⟨h6,h7⟩,h8,h9,h10⟩
end Go.PK

namespace Go.PK
open Go Go.RowKit
def vo (xs:List (List ByteArray)) (Ss:List ak):List Value:=List.zipWith (fun x S=>au S x.length) xs Ss
structure SSOK (R:ak) (Ss:List ak) (xs:List (List ByteArray)):Prop where
  len:Ss.length=xs.length
  row:ag 1 R xs.length (vo xs Ss)
  sub:∀ j (h1:j < Ss.length) (h2:j < xs.length),ag 1 Ss[j] xs[j].length (xs[j].map Value.string)
def rU (e:TypeId) (Ss:List ak):List (Nat×Obj):=Ss.reverse.flatMap (aA e)
theorem iM (e:TypeId) (Ss:List ak) (S:ak):rU e (Ss++[S])=aA e S++rU e Ss:=by simp [rU]
theorem SSOK.nil:SSOK none [] []:=⟨rfl,bG,fun j h=>by simp at h⟩
theorem lK {xs:List (List ByteArray)} {Ss:List ak} (h:Ss.length=xs.length) (x:List ByteArray) (S:ak):vo (xs++[x]) (Ss++[S])=vo xs Ss++[au S x.length]:=by
  unfold vo; rw [List.zipWith_append h.symm]; rfl
theorem kd {xs:List (List ByteArray)} {Ss:List ak} (h:Ss.length=xs.length):(vo xs Ss).length=xs.length:=by unfold vo; rw [List.length_zipWith,h,Nat.min_self]
theorem SSOK.snoc {R R' S:ak} {Ss:List ak} {xs:List (List ByteArray)} {x:List ByteArray} (h:SSOK R Ss xs) (hr:ag 1 R' (xs.length+1) (vo xs Ss++[au S x.length])) (hs:ag 1 S x.length (x.map Value.string)):SSOK R' (Ss++[S]) (xs++[x]) where
  len:=by simp [h.len]
  row:=by rw [lK h.len]; simpa using hr
  sub:=fun j h1 h2=>by
    by_cases hj:j < Ss.length
    · have hj2:j < xs.length:=by rw [← h.len]; exact hj
      rw [List.getElem_append_left hj]
      simp only [List.getElem_append_left hj2]
      exact h.sub j hj hj2
    · have hj2:j=xs.length:=by have:=h.len; simp at h1 h2; omega
      subst hj2
      rw [List.getElem_append_right (by omega)]
      simp only [List.getElem_append_right (Nat.le_refl _)]
      simpa [h.len] using hs
theorem SSOK.last {R:ak} {Ss:List ak} {xs:List (List ByteArray)} (h:SSOK R Ss xs) (hne:xs≠[]):∃ ys y Ts S b cs c,xs=ys++[y]∧Ss=Ts++[S]∧R=some (b,cs,c):=by
  have hx:=(List.dropLast_concat_getLast hne).symm
  have hne2:Ss≠[]:=fun e=>by have:=h.len; rw [e] at this; exact hne (List.eq_nil_of_length_eq_zero this.symm)
  have hS:=(List.dropLast_concat_getLast hne2).symm
  cases hR:R with
  | none=>have h1:=h.row; rw [hR] at h1; exact absurd (List.eq_nil_of_length_eq_zero h1.2) hne
  | some z=>obtain ⟨b,cs,c⟩:=z; exact ⟨_,_,_,_,b,cs,c,hx,hS,rfl⟩
section
variable {R:ak} {b c:Nat} {cs:List Value} {Ts:List ak} {S S':ak} {ys:List (List ByteArray)} {y y':List ByteArray}
theorem SSOK.tl (h:SSOK R (Ts++[S]) (ys++[y])):Ts.length=ys.length:=by have:=h.len; simpa using this
theorem SSOK.lastOK (h:SSOK R (Ts++[S]) (ys++[y])):ag 1 S y.length (y.map Value.string):=by
  have hl:=h.tl
  have:=h.sub ys.length (by simp; omega) (by simp)
  rw [List.getElem_append_right (by omega)] at this
  simp only [List.getElem_append_right (Nat.le_refl _)] at this
  simpa [hl] using this
theorem SSOK.lastAt (h:SSOK (some (b,cs,c)) (Ts++[S]) (ys++[y])):cs[ys.length]?=some (au S y.length)∧ys.length < cs.length:=by
  obtain ⟨h1,h2,h3,h4,h5⟩:=h.row
  dsimp only at h2 h3 h4 h5
  rw [lK h.tl] at h5
  have h6:(cs.take ((ys++[y]).length*1))[ys.length]?=some (au S y.length):=by
    rw [h5,List.getElem?_append_right (by rw [kd h.tl]; exact Nat.le_refl _),kd h.tl]; simp
  rw [List.getElem?_take,if_pos (by simp)] at h6
  exact ⟨h6,(List.getElem?_eq_some_iff.1 h6).1⟩
theorem SSOK.setlast (h:SSOK (some (b,cs,c)) (Ts++[S]) (ys++[y])) (hs:ag 1 S' y'.length (y'.map Value.string)):SSOK (some (b,cs.set ys.length (au S' y'.length),c)) (Ts++[S']) (ys++[y']) where
  len:=by have:=h.len; simpa using this
  row:=by
    obtain ⟨h1,h2,h3,h4,h5⟩:=h.row
    dsimp only at h2 h3 h4 h5
    rw [lK h.tl] at h5 h1
    rw [lK h.tl]
    simp only [List.length_append,List.length_singleton,Nat.mul_one] at h1 h2 h5
    refine ⟨by simpa using h1,by simpa using h2,h3,by simpa using h4,?_⟩
    simp only [List.length_append,List.length_singleton,Nat.mul_one]
    rw [List.take_set,h5,List.set_append_right _ _ (by rw [kd h.tl]; exact Nat.le_refl _),kd h.tl]
    simp
  sub:=fun j h1 h2=>by
    have hl:=h.tl
    by_cases hj:j < ys.length
    · rw [List.getElem_append_left (by omega)]
      simp only [List.getElem_append_left hj]
      have:=h.sub j (by simp; omega) (by simp; omega)
      rw [List.getElem_append_left (by omega)] at this
      simp only [List.getElem_append_left hj] at this
      exact this
    · have hj2:j=ys.length:=by simp at h2; omega
      subst hj2
      rw [List.getElem_append_right (by omega)]
      simp only [List.getElem_append_right (Nat.le_refl _)]
      simpa [hl] using hs
end
theorem tP {cs:List Value} {k n:Nat} {S:ak} (h:k < cs.length):List.take k cs++(au S n).cells.toList++List.drop (k+1) cs=cs.set k (au S n):=by
  show List.take k cs++[au S n]++List.drop (k+1) cs=_
  rw [List.set_eq_take_append_cons_drop,if_pos h]; simp
theorem wX {e:TypeId} {Ss:List ak} {j:Nat} (h:j < Ss.length):∀ p∈aA e Ss[j],p∈rU e Ss:=fun p hp=>by
  unfold rU
  exact List.mem_flatMap.2 ⟨Ss[j],by simp,hp⟩
theorem wY {D:Nat→Prop} {w:World} {own:List (Nat×Obj)} {ro:List av} {e:TypeId} {r:ak} {xs:List ByteArray} {n:Nat} (hr:ag 1 r n (xs.map Value.string)) (hn:n=xs.length) (hok:∀ s∈xs,iD s)
    (hm:Mem w own ro) (hin:∀ p∈aA e r,p∈own) (hD:∀ p∈aA e r,D p.1):ab aX D w (au r n) xs :=
  wU Value.string rfl hr hn (fun D' ws x hx=>⟨rfl,hok x hx⟩) hm hin hD
theorem SSOK.rd {R:ak} {Ss:List ak} {xs:List (List ByteArray)} {D:Nat→Prop} {w:World} {own:List (Nat×Obj)} {ro:List av} {eR eS:TypeId} {n:Nat} (h:SSOK R Ss xs) (hn:n=xs.length) (hok:∀ x∈xs,∀ s∈x,iD s)
    (hm:Mem w own ro) (hR:∀ p∈aA eR R,p∈own) (hS:∀ p∈rU eS Ss,p∈own) (hD:∀ p∈aA eR R,D p.1) (hD2:∀ p∈rU eS Ss,D p.1):ab (aP aX) D w (au R n) xs:=by
  have hT:cZ (aP aX) D w R xs:=by
    refine ⟨(vo xs Ss).map fun v=>[v],by rw [List.length_map,kd h.len],?_,fun j h1 h2=>?_⟩
    · have e:((vo xs Ss).map fun v=>[v]).flatten=vo xs Ss:=by
        generalize vo xs Ss=l
        induction l with
        | nil=>rfl
        | cons a l ih=>simp [ih]
      rw [e]; exact h.row
    · rw [List.getElem_map]
      have hjS:j < Ss.length:=by rw [h.len]; exact h2
      have hv:(vo xs Ss)[j]'(by rw [kd h.len]; exact h2)=au Ss[j] xs[j].length:=by unfold vo; rw [List.getElem_zipWith]
      rw [hv]
      exact ⟨_,rfl,wY (e:=eS) (h.sub j hjS h2) rfl (hok _ (List.getElem_mem h2)) hm (fun p hp=>hS p (wX hjS p hp)) (fun p hp=>hD2 p (wX hjS p hp))⟩
  exact hT.rd hm hR (fun _ h=>h) hD hn
end Go.PK

namespace Go.PK
open Go Go.RowKit
abbrev OpenR:=Option (Sg×Nat)×Int×Int
def ci (s:ByteArray):OpenR :=
  if pT s then (if s.size < 9 then (none,((s.size:Nat):Int),10) else if eX (jk s) then (some (jk s,9),0,0) else (none,3,11))
  else (some (bO,0),0,0)
theorem iN (s:ByteArray):aK s=match (ci s).1 with | some (g,a)=>lG s g a [] | none=>([],(ci s).2):=by
  unfold aK ci
  split
  · split
    · rfl
    · split <;> rfl
  · rfl
theorem wZ (s:ByteArray):pre s ⟨#[85,78,65]⟩=decide (pT s):=rfl
theorem oe (s:ByteArray) {g:Sg} {a:Nat} (h:(ci s).1=some (g,a)):a≤s.size∧(ci s).2=(0,0):=by
  unfold ci at h ⊢
  split at h
  · rename_i hu
    rw [if_pos hu]
    split at h
    · cases h
    · rename_i h9
      rw [if_neg h9]
      split at h
      · rename_i hr
        injection h with h; injection h with h1 h2
        rw [if_pos hr]; exact ⟨by omega,rfl⟩
      · cases h
  · rename_i hu
    rw [if_neg hu]
    injection h with h; injection h with h1 h2
    exact ⟨by omega,rfl⟩
theorem vq (s:ByteArray) (h:(ci s).1=none):(ci s).2.2=10∨(ci s).2.2=11:=by
  unfold ci at h ⊢
  split at h
  · rename_i hu
    rw [if_pos hu]
    split at h
    · rename_i h9; rw [if_pos h9]; exact .inl rfl
    · rename_i h9
      rw [if_neg h9]
      split at h
      · cases h
      · rename_i hr; rw [if_neg hr]; exact .inr rfl
  · cases h
def aZ:Ty Seg:=(jP aX (jP (aP (aP aX)) wF)).map fun p=>⟨p.1,p.2.1⟩
theorem bk {D:Nat→Prop} {w:World} {t:ByteArray} {v:Value} {x:Seg} (ht:t=x.tag) (hok:iD x.tag) (hv:ab (aP aX) D w v x.els):aZ.rd D w [.string t,v] x:=by
  subst ht
  exact ⟨(x.tag,x.els,()),⟨[.string x.tag],[v],rfl,⟨rfl,hok⟩,[v],[],rfl,⟨v,rfl,hv⟩,rfl⟩,rfl⟩
theorem tySeg_is {D:Nat→Prop} {w:World} {cs:List Value} {x:Seg} (h:aZ.rd D w cs x):∃ v,cs=[.string x.tag,v]∧iD x.tag∧ab (aP aX) D w v x.els:=by
  obtain ⟨⟨t,e,u⟩,⟨a,b,h0,⟨h1,h1k⟩,c,d,h2,⟨v,h3,h4⟩,h5⟩,h6⟩:=h
  subst h6
  have h5:d=[]:=h5
  dsimp only at h1 h3 h4 h1k
  exact ⟨v,by rw [h0,h1,h2,h3,h5]; rfl,h1k,h4⟩
theorem mq {D:Nat→Prop} {w:World} {A:Option Addr} {l c:Nat} {xs:List Seg} (h:ab aZ D w (.slice A l c) xs) {k:Nat} (hk:k < xs.length) :
    ∃ b off v,A=some ⟨b,off,none⟩∧D b∧w.cell? ⟨b,off+k*2,none⟩=some (.string xs[k].tag)∧w.cell? ⟨b,off+k*2+1,none⟩=some v∧iD xs[k].tag∧ab (aP aX) D w v xs[k].els:=by
  obtain ⟨A',c',e,h1,h2,h3⟩:=h
  injection e with e1 e2 e3
  obtain ⟨b,off,hA,hD,hb,hc⟩:=h3 (by omega)
  obtain ⟨cs,hcs,hok⟩:=hc k hk
  obtain ⟨v,rfl,h4,h5⟩:=tySeg_is hok
  have h6:=hcs 0 (by simp)
  have h7:=hcs 1 (by simp)
  have hs:aZ.size=2:=rfl
  rw [hs] at h6 h7
  exact ⟨b,off,v,e1.trans hA,hD,h6,h7,h4,h5⟩
theorem aV.made2 {w wa wb w0:World} {own:List (Nat×Obj)} {ro:List av} {D1:Nat→Prop} (h:Mem w0 own ro) (hs:(wb,D1)∈ro) (hD:∀ k,wa.heap.size≤k→D1 k) (hw:w.heap.size≤wa.heap.size):aV (fun b=>wa.heap.size≤b) (dC w own) wb w0 :=
  fun k hk hlt=>⟨⟨Nat.le_trans hw hk,fun p hp he=>by
    have h1:=h.apart p hp _ hs (hD _ (by omega))
    simp only at h1; omega⟩,h.ro_at _ hs k (hD k hk) hlt⟩
theorem Mem.join {w1 w2:World} {own1 own2:List (Nat×Obj)} {ro:List av} (h1:Mem w1 own1 ro) (h2:Mem w2 own2 [(w1,fun _=>True)]):Mem w2 own2 ro where
  own_at:=h2.own_at
  own_nd:=h2.own_nd
  ro_st:=fun s hs=>by
    obtain ⟨a,b,c,d⟩:=h1.ro_st s hs
    obtain ⟨a',b',c',d'⟩:=h2.ro_st _ (.head _)
    exact ⟨a'.trans a,b'.trans b,c'.trans c,Nat.le_trans d d'⟩
  ro_at:=fun s hs k hk hlt=>(h2.ro_at _ (.head _) k trivial (Nat.lt_of_lt_of_le hlt (h1.ro_st s hs).2.2.2)).trans (h1.ro_at s hs k hk hlt)
  apart:=fun q hq s hs hd=>Nat.le_trans (h1.ro_st s hs).2.2.2 (h2.apart q hq _ (.head _) trivial)
theorem aT {α:Type} {T:Ty α} {D:Nat→Prop} {w:World}:ab T D w (.slice none 0 0) []:=⟨none,0,rfl,Nat.le_refl _,Nat.zero_le _,fun h=>by simp at h⟩
theorem vr {w:World} {l1 l2:List (Nat×Obj)} {ro:List av} {p:Nat} {o o':Obj} (h:Mem w (l1++(p,o)::l2) ro) (k:Nat) (hk:w.heap.size≤k):a7 (l1++(p,o')::l2) k:=fun q hq e=>by
  have h1:∃ q2∈l1++(p,o)::l2,q2.1=q.1:=by
    simp only [List.mem_append,List.mem_cons] at hq ⊢
    rcases hq with hq | rfl | hq
    · exact ⟨q,.inl hq,rfl⟩
    · exact ⟨_,.inr (.inl rfl),rfl⟩
    · exact ⟨q,.inr (.inr hq),rfl⟩
  obtain ⟨q2,h2,e2⟩:=h1
  have:=h.lt h2
  omega
end Go.PK

namespace Go.PK
open Go Go.RowKit
theorem qB {l:List UInt8} {k:Nat} {c:UInt8} (hk:k≤l.length):vm (l.take k) c=true↔∃ j,j < k∧l.getD j 0=c:=by
  unfold vm
  rw [List.any_eq_true]
  constructor
  · rintro ⟨x,hx,he⟩
    obtain ⟨j,hj,rfl⟩:=List.mem_iff_getElem.1 hx
    rw [List.length_take] at hj
    refine ⟨j,by omega,?_⟩
    rw [List.getElem_take] at he
    rw [List.getD_eq_getElem?_getD,List.getElem?_eq_getElem (by omega)]
    exact (of_decide_eq_true he).symm
  · rintro ⟨j,hj,rfl⟩
    have hj2:j < l.length:=by omega
    refine ⟨l.getD j 0,?_,by simp⟩
    rw [List.getD_eq_getElem?_getD,List.getElem?_eq_getElem hj2]
    exact List.mem_take_iff_getElem.2 ⟨j,by omega,rfl⟩
theorem qC (g:Sg) {k:Nat} (h:k < 4):g.cells[k]?=some (.int .u8 (((gl g).getD k 0).toNat:Nat)):=by
  match k,h with
  | 0,_=>rfl
  | 1,_=>rfl
  | 2,_=>rfl
  | 3,_=>rfl
theorem tR (bs:List UInt8) (c:UInt8):(⟨bs.toArray⟩:ByteArray)++⟨[c].toArray⟩=⟨(bs++[c]).toArray⟩:=by
  rw [ByteArray.ext_iff]; simp
theorem rV {s:ByteArray} {x:Nat} (h:x < s.size):s.extract x (x+1)=⟨[ad s x].toArray⟩:=by
  rw [ByteArray.ext_iff]
  have hx:x < s.data.size:=h
  apply Array.ext
  · simp only [ByteArray.data_extract,Array.size_extract,List.size_toArray,List.length_singleton]; omega
  · intro i h1 h2
    obtain rfl:i=0:=by simpa using h2
    simp only [ByteArray.data_extract,Array.getElem_extract,Nat.add_zero]
    show s.data[x]=ad s x
    unfold ad
    rw [List.getD_eq_getElem?_getD,List.getElem?_eq_getElem (by simpa using hx)]
    simp
theorem str_cut {s:ByteArray} {x:Nat} (bs:List UInt8) (h:x < s.size):(⟨bs.toArray⟩:ByteArray)++s.extract x (x+1)=⟨(bs++[ad s x]).toArray⟩:=by rw [rV h,tR]
def ft (s:ByteArray) (g:Sg) (x:Nat) (bs:List UInt8) (out:List (List ByteArray)):ElR :=
  match cH s g x bs with
  | none=>none
  | some (t,c,a)=>ja s g c a (gi out ⟨t.toArray⟩)
theorem el_cont {s:ByteArray} {g:Sg} {c:UInt8} {x:Nat} {out:List (List ByteArray)} (h:¬c=g.n):ja s g c x out=ft s g x [] (jS g c out):=by
  rw [qs,if_neg h]; rfl
theorem cont_rel {s:ByteArray} {g:Sg} {x:Nat} {bs:List UInt8} {out:List (List ByteArray)} (h:x < s.size) (h1:¬(ad s x=g.c∨ad s x=g.e∨ad s x=g.n)) (h2:ad s x=g.r) (h3:¬x+1=s.size):ft s g x bs out=ft s g (x+2) (bs++[ad s (x+1)]) out:=by
  unfold ft; rw [eW s g x,if_pos h,if_neg h1,if_pos h2,if_neg h3]
theorem cont_end {s:ByteArray} {g:Sg} {x:Nat} {bs:List UInt8} {out:List (List ByteArray)} (h:x < s.size) (h1:¬(ad s x=g.c∨ad s x=g.e∨ad s x=g.n)) (h2:ad s x=g.r) (h3:x+1=s.size):ft s g x bs out=none:=by
  unfold ft; rw [eW s g x,if_pos h,if_neg h1,if_pos h2,if_pos h3]
theorem yD {s:ByteArray} {g:Sg} {x:Nat} {bs:List UInt8} {out:List (List ByteArray)} (h:x < s.size) (h1:¬(ad s x=g.c∨ad s x=g.e∨ad s x=g.n)) (h2:¬ad s x=g.r):ft s g x bs out=ft s g (x+1) (bs++[ad s x]) out:=by
  unfold ft; rw [eW s g x,if_pos h,if_neg h1,if_neg h2]
theorem cont_sep {s:ByteArray} {g:Sg} {x:Nat} {bs:List UInt8} {out:List (List ByteArray)} (h:x < s.size) (h1:ad s x=g.c∨ad s x=g.e∨ad s x=g.n):ft s g x bs out=ja s g (ad s x) (x+1) (gi out ⟨bs.toArray⟩):=by
  unfold ft; rw [eW s g x,if_pos h,if_pos h1]
theorem yE {s:ByteArray} {g:Sg} {x:Nat} {bs:List UInt8} {out:List (List ByteArray)} (h:¬x < s.size):ft s g x bs out=none:=by
  unfold ft; rw [eW s g x,if_neg h]
theorem vt (s:ByteArray) {g:Sg} {a:Nat} (h:(ci s).1=some (g,a)):eX g:=by
  unfold ci at h
  split at h
  · split at h
    · cases h
    · split at h
      · rename_i hr; injection h with h; injection h with h1 h2; exact h1▸hr
      · cases h
  · injection h with h; injection h with h1 h2; subst h1; decide
theorem yF {s:ByteArray} {k:Nat} (h:k+3≤s.size):aQ s k=s.extract k (k+3):=by unfold aQ; rw [Nat.min_eq_left h]
end Go.PK

namespace Go.PK
open Go Go.RowKit
theorem mr {P:Program} {w w':World} (t u ty e:TypeId) (i:TypeInfo) (ht:P.underlying t=some (.slice e)) (hu:P.underlying u=some .string) (hi:P.info? e=some i) (hz:i.zero=some (.int .u8 0)) (hsize:i.size=1) (hby:i.bytes=1)
    (v v':Value) (n:Nat) (xs:List Value) (hown:w.ownsRow 0 e 1 v n xs) (s:ByteArray) (h63:n+s.size≤maxLen) (hbytes:n+s.size≤140737488355328)
    (hr:(Builtin.append_ #[t,u] ty #[v,.string s]).run P w=.ok v' w') (h4:v'=.slice none 0 0↔v=.slice none 0 0∧s.size=0):v'.ownBlock=v.ownBlock∨v'.ownBlock=some w.heap.size:=by
  have hxl:xs.length=n:=by simpa using hown.1
  simp only [maxLen] at h63
  rcases hown.2 with ⟨rfl,rfl⟩ | ⟨g,cap,cur,rfl,_,hg,hnc,hcm,hcs,htake⟩
  · by_cases hm:s.size=0
    · exact .inl (by rw [h4.2 ⟨rfl,hm⟩])
    · have h2:=run_append_nil_string (P:=P) w t u ty e i (.int .u8 0) ht hu hi hz s (by omega) (by omega) (by rw [hby]; omega)
      rw [h2] at hr
      injection hr with h5 h6
      exact .inr (by rw [← h5]; rfl)
  · by_cases hroom:n+s.size≤cap
    · have h2:=Lib.run_append_room_string (P:=P) w t u ty e i ht hu hi hsize g n cap cur hg s hroom (by omega)
      rw [h2] at hr
      injection hr with h5 h6
      exact .inl (by rw [← h5]; rfl)
    · have holds:∀ j u,xs[j]?=some u→w.cell? ((⟨g,0,none⟩:Addr).add j)=some u:=World.ownsRow.cells hown (g:=g) rfl
      have h2:=Lib.run_append_grow_string (P:=P) w t u ty e i (.int .u8 0) ht hu hi hz ⟨g,0,none⟩ n cap xs (by rw [hsize]; simpa using hxl) holds s (by omega) (by omega) (by rw [hby]; exact growslice_fits (by omega) (by omega))
      rw [h2] at hr
      injection hr with h5 h6
      exact .inr (by rw [← h5]; rfl)
section
variable {P:Program} {b off:Nat} {t':TypeId} {n:Nat} {l:List (Nat×Value)} {own:List (Nat×Obj)} {ro:List av} {lops:List Oper} {Q:Exit→Act→World→Prop} {K:Act→World→Prop}
  {rest:List (Option Bool×Nat)} {k:Option Bool} {i d:Nat} {ty t u:TypeId} {pos:String} {af:Array Edge} {x y:Operand}
theorem rW {e:TypeId} {len:Nat} {xs:List Value} {s:ByteArray} (l1:List (Nat×Obj)) {l2:List (Nat×Obj)} (r:ak) (ho:lops[i]?=some ⟨some d,.call ⟨.builtin .append,#[x,y],#[t,u]⟩,ty,pos,af,none⟩) (hd:decide (d < n)=true)
    (hx:ev l x=some (au r len)) (hy:ev l y=some (.string s)) (hown:own=l1++aA e r++l2) (hr:ag 1 r len xs)
    (ht:P.underlying t=some (.slice e)) (hu:P.underlying u=some .string) (hi:(P.info? e).map (fun j=>(j.zero,j.size,j.bytes))=some (some (.int .u8 0),1,1))
    (hb1:len+s.size≤maxLen) (hb2:len+s.size≤140737488355328)
    (h:∀ r',ag 1 r' (len+s.size) (xs++ea s.data.toList)→WX P lops.toArray Q K rest n ((d,au r' (len+s.size))::l) (l1++aA e r'++l2) ro):WX P lops.toArray Q K ((none,i)::rest) n l own ro:=by
  subst hown
  intro a w ha hw
  have hd':d < n:=of_decide_eq_true hd
  have hw1:=bU (lops:=lops) (n:=n) (l:=l) (o:=⟨some d,.call ⟨.builtin .append,#[x,y],#[t,u]⟩,ty,pos,af,none⟩) rfl a ha
  simp only [hJ,List.getElem?_toArray,ho]
  intro w' hl'
  rw [if_pos hw1]
  have hM:=hw.later hl'
  obtain ⟨inf,hi1,hi2⟩:=Option.map_eq_some_iff.1 hi
  simp only [Prod.mk.injEq] at hi2
  obtain ⟨hiz,his,hib⟩:=hi2
  have hown:=lB (own:=[]) hM hr
  obtain ⟨v',w2,hrun,h2,h3,h4⟩:=Lib.run_append_own_string (P:=P) w' 0 t u ty e inf ht hu hi1 hiz his hib (au r len) len xs hown s hb1 hb2 (Nat.zero_le _)
  have h5:=mr (P:=P) t u ty e inf ht hu hi1 hiz his hib _ v' len xs hown s hb1 hb2 hrun h4
  obtain ⟨r',rfl,hok,hM2⟩:=hM.append h2 h3 h5
  unfold Oper.wp execOp
  simp only [resolve,invoke,builtin,Sem.run_bind,Sem.run_pure,Result.andThen_ok,List.map_toArray,List.map_cons,List.map_nil,ha.eval hx,ha.eval hy,hrun]
  exact h r' hok _ _ (ha.put _ hd') hM2
end
theorem tX {P:Program} {n:Nat} {l:List (Nat×Value)} {own:List (Nat×Obj)} {ro:List av} {ty t t':TypeId} {x:Operand} {e E:TypeId} {m:Nat} {r:ak} (bs:List UInt8) (hs:P.underlying t=some (.slice e)) (he:P.underlying e=some (.int .u8)) (hd:P.underlying t'=some .string) (hx:ev l x=some (au r m)) (hr:ag 1 r m (ea bs)) (hm:m=bs.length)
    (hown:∀ q∈aA E r,q∈own):cx P n l own ro (.convert t t' x) ty (.string ⟨bs.toArray⟩):=by
  subst hm
  cases r with
  | none =>
    have h0:bs=[]:=List.eq_nil_of_length_eq_zero hr.2
    subst h0
    intro A w o ha hw ho _
    have h1:=run_convert_bytes_nil (P:=P) w t e hs he ([]:List UInt8).length 0 t' hd
    have hx2:A.eval x=.slice none ([]:List UInt8).length 0:=ha.eval hx
    simp only [execOp,ho,hx2,h1,Sem.run_bind,Result.andThen_ok]
    rfl
  | some z =>
    obtain ⟨b,cs,c⟩:=z
    obtain ⟨h1,h2,h3,h4,h5⟩:=hr
    dsimp only at h2 h3 h4 h5
    refine ji (b:=b) (off:=0) bs hs he hd hx rfl fun j hj=>aa (vs:=cs) (hown (b,Obj.cells cs.toArray E (0,0)) (by simp [aA])) ?_
    have h6:=rE hj
    rw [← h5,List.getElem?_take,if_pos (by omega)] at h6
    rw [Nat.zero_add]; exact h6
end Go.PK

namespace Go.PK
open Go Go.RowKit
def bl (s:ByteArray):List UInt8:=s.data.toList
theorem a8 (s:ByteArray):(bl s).length=s.size:=by unfold bl; simp
theorem fx (s:ByteArray):(⟨(bl s).toArray⟩:ByteArray)=s:=by unfold bl; simp
theorem mY (l:List UInt8):bl ⟨l.toArray⟩=l:=by unfold bl; simp
theorem iv {s:ByteArray} {k:Nat} (h:k < (bl s).length):(bl s)[k]=ad s k:=by
  unfold bl ad at *; rw [List.getD_eq_getElem?_getD,List.getElem?_eq_getElem h]; rfl
theorem w9 (bs:List UInt8) (s:ByteArray):(⟨bs.toArray⟩:ByteArray)++s=⟨(bs++bl s).toArray⟩:=by
  rw [ByteArray.ext_iff]; simp [bl]
def pY (c:UInt8):List UInt8:=if mX c then [63,c] else [c]
def eE (l:List UInt8):List UInt8:=l.flatMap pY
theorem iP (c:UInt8) (l:List UInt8):eE (c::l)=pY c++eE l:=rfl
def mt (c:UInt8):List ByteArray→List UInt8
  | []=>[]
  | t::ts=>c::(eE (bl t)++mt 58 ts)
def sgT (x:Seg):List UInt8:=bl x.tag++(x.els.flatMap (mt 43)++[39])
def cr (x:Seg):Bool:=decide (x.tag.size=3) && !(bl x.tag).any (fun c=>!eD c) && !x.els.any List.isEmpty
def lM:ByteArray:=⟨#[85,78,65]⟩
def jA (k:Nat) (x:Seg):Prop:=cr x=true∧¬(k=0∧x.tag=lM)
instance (k:Nat) (x:Seg):Decidable (jA k x):=by unfold jA; infer_instance
abbrev WrR:=ByteArray×Int
def fX (l:List Seg):List UInt8:=l.flatMap sgT
def u6 (l:List Seg):WrR :=
  if l.length > 10000 then (⟨#[]⟩,2)
  else if ∀ k (h:k < l.length),jA k l[k] then (⟨(fX l).toArray⟩,0) else (⟨#[]⟩,1)
theorem wrR_many {l:List Seg} (h:l.length > 10000):u6 l=(⟨#[]⟩,2):=by unfold u6; rw [if_pos h]
theorem rX {l:List Seg} {k:Nat} (h:¬l.length > 10000) (hk:k < l.length) (hb:¬jA k l[k]):u6 l=(⟨#[]⟩,1):=by
  unfold u6; rw [if_neg h,if_neg (fun h2=>hb (h2 k hk))]
theorem wrR_ok {l:List Seg} (h:¬l.length > 10000) (hg:∀ k (h:k < l.length),jA k l[k]):u6 l=(⟨(fX l).toArray⟩,0):=by
  unfold u6; rw [if_neg h,if_pos hg]
theorem wrT_drop {l:List Seg} {k:Nat} (h:k < l.length):fX (l.drop k)=bl l[k].tag++(l[k].els.flatMap (mt 43)++([39]++fX (l.drop (k+1)))):=by
  unfold fX; rw [List.drop_eq_getElem_cons h,List.flatMap_cons]; unfold sgT; simp only [List.append_assoc]
theorem els_drop {x:List (List ByteArray)} {j:Nat} (h:j < x.length):(x.drop j).flatMap (mt 43)=mt 43 x[j]++(x.drop (j+1)).flatMap (mt 43):=by
  rw [List.drop_eq_getElem_cons h,List.flatMap_cons]
theorem elT_drop {e:List ByteArray} {i:Nat} {c:UInt8} (h:i < e.length):mt c (e.drop i)=c::(eE (bl e[i])++mt 58 (e.drop (i+1))):=by
  rw [List.drop_eq_getElem_cons h]; rfl
theorem esc_drop {t:ByteArray} {m:Nat} (h:m < t.size):eE ((bl t).drop m)=pY (ad t m)++eE ((bl t).drop (m+1)):=by
  have h2:m < (bl t).length:=by rw [a8]; exact h
  rw [List.drop_eq_getElem_cons h2,iP,iv h2]
theorem og {α:Type} {l:List α} {k:Nat} (h:¬k < l.length):l.drop k=[]:=List.drop_eq_nil_of_le (by omega)
theorem tY {x:Seg} (h:cr x=true):x.tag.size=3:=by
  unfold cr at h; simp only [Bool.and_eq_true,decide_eq_true_eq] at h; exact h.1.1
theorem Mem.perm {w:World} {own own':List (Nat×Obj)} {ro:List av} (h:Mem w own ro) (p:own.Perm own'):Mem w own' ro where
  own_at:=fun q hq=>h.own_at q (p.mem_iff.2 hq)
  own_nd:=(p.map (·.1)).nodup_iff.1 h.own_nd
  ro_st:=h.ro_st
  ro_at:=h.ro_at
  apart:=fun q hq=>h.apart q (p.mem_iff.2 hq)
theorem len_le {a b c:List UInt8} {N:Nat} (h:a++b=c) (hc:c.length≤N):a.length≤N:=by
  have:=congrArg List.length h; rw [List.length_append] at this; omega
theorem cU (l:List UInt8):(⟨l.toArray⟩:ByteArray).size=l.length:=List.size_toArray
theorem iQ (a b:List UInt8):(⟨a.toArray⟩:ByteArray)++⟨b.toArray⟩=⟨(a++b).toArray⟩:=by rw [w9,mY]
theorem any3:∀ (l:List UInt8),l.length=3→l.any (fun c=>!eD c)=!(eD (l.getD 0 0) && eD (l.getD 1 0) && eD (l.getD 2 0))
  | [a,b,c],_=>by simp [Bool.not_and,Bool.or_assoc]
theorem xa {t:ByteArray} (h:t.size=3):(bl t).any (fun c=>!eD c)=!(eD (ad t 0) && eD (ad t 1) && eD (ad t 2)):=any3 (bl t) (by rw [a8,h])
theorem xd:∀ (l:List UInt8),l.length≤(eE l).length
  | []=>Nat.le_refl _
  | c::l=>by
    have:=xd l
    have h2:1≤(pY c).length:=by unfold pY; split <;> simp
    rw [iP,List.length_append,List.length_cons]; omega
def sepB (i:Nat):UInt8:=if i=0 then 43 else 58
end Go.PK

namespace Go.PK
open Go Go.RowKit
theorem vu (w:World) (n:Nat) (os:Array Obj):Later w (Sort.grow (w.drewN n) os) where
  os:=rfl
  tape:=rfl
  output:=rfl
  size:=by rw [Sort.size_grow]; show w.heap.size≤w.heap.size+os.size; omega
  block:=fun k hk=>by
    show (w.heap++os)[k]?=w.heap[k]?
    rw [Array.getElem?_append_left hk]
theorem tZ (w:World) (o:Obj):Later w (w.alloc o) where
  os:=rfl
  tape:=rfl
  output:=rfl
  size:=by show w.heap.size≤(w.heap.push o).size; rw [Array.size_push]; omega
  block:=fun k hk=>by
    show (w.heap.push o)[k]?=w.heap[k]?
    rw [Array.getElem?_push,if_neg (by omega)]
theorem alloc_at (w:World) (o:Obj):(w.alloc o).heap[w.heap.size]?=some o:=by
  show (w.heap.push o)[w.heap.size]?=_
  simp
def ai (n:Int):ByteArray:=⟨(Lib.itoa n).toArray⟩
theorem br {n:Int} (h:aj n):(ai n).size≤21:=by
  unfold ai; rw [cU]; exact Lib.itoa_length_le n h.1 h.2
def jB:ByteArray:=⟨#[58]⟩
def aN (e:ByteArray):List ByteArray:=Lib.splitB jB 0 (Lib.countB e jB) e
theorem vv (e:ByteArray):(aN e).length=Lib.countB e jB+1:=Lib.splitB_all jB (by decide) 0 _ e rfl
theorem mZ (sep:ByteArray):∀ (k:Nat) (s:ByteArray),∀ p∈Lib.splitB sep 0 k s,p.size≤s.size
  | 0,s,p,h=>by rw [Lib.splitB_zero,List.mem_singleton] at h; rw [h]; exact Nat.le_refl _
  | k+1,s,p,h=>by
    unfold Lib.splitB at h
    split at h
    · rw [List.mem_singleton] at h; rw [h]; exact Nat.le_refl _
    · rcases List.mem_cons.1 h with rfl | h
      · rw [ByteArray.size_extract]; omega
      · have:=mZ sep k _ p h
        rw [ByteArray.size_extract] at this; omega
theorem yG {e:ByteArray} (h:iD e):∀ p∈aN e,iD p:=fun p hp=>by
  have:=mZ _ _ _ p hp
  unfold iD at *; omega
structure Ord where
  id:Int
  fund:Int
  src:Int
  num:Int
  copies:Int
  price:Int
  prom:Int
  paid:Int
  st:Int
deriving DecidableEq
def Ord.cells (o:Ord):List Value:=[.int .i64 o.id,.int .i64 o.fund,.int .i64 o.src,.int .i64 o.num,.int .i64 o.copies,.int .i64 o.price,.int .i64 o.prom,.int .i64 o.paid,.int .i64 o.st]
def Ord.ok (o:Ord):Prop:=aj o.id∧aj o.fund∧aj o.src∧aj o.num∧aj o.copies∧aj o.price
def wi (a b:Int) (l:List Int):Bool:=!l.any (fun n=>decide (n < a) || decide (n > b))
def bV (o:Ord):Bool:=wi 1 999999999 [o.id,o.fund] && wi 0 999999999 [o.src,o.num,o.price] && wi 1 9999 [o.copies]
def kB (s n:Int):ByteArray:=((ai s++⟨#[46]⟩)++ai n)++⟨#[58,83,82,86]⟩
theorem qD {s n:Int} (h1:aj s) (h2:aj n):(kB s n).size≤60:=by
  have a:=br h1; have b:=br h2
  unfold kB
  rw [ByteArray.size_append,ByteArray.size_append,ByteArray.size_append]
  have e1:(⟨#[46]⟩:ByteArray).size=1:=rfl
  have e2:(⟨#[58,83,82,86]⟩:ByteArray).size=4:=rfl
  omega
def eF (o:Ord):List Seg :=
  [⟨⟨#[85,78,72]⟩,[aN (⟨#[49]⟩),aN (⟨#[79,82,68,69,82,83,58,68,58,57,54,65,58,85,78]⟩)]⟩,
   ⟨⟨#[66,71,77]⟩,[aN (⟨#[50,50,48]⟩),aN (ai o.id)]⟩,
   ⟨⟨#[76,73,78]⟩,[aN (⟨#[49]⟩),aN (⟨#[]⟩),aN (kB o.src o.num)]⟩,
   ⟨⟨#[81,84,89]⟩,[aN (⟨#[50,49,58]⟩++ai o.copies)]⟩,
   ⟨⟨#[80,82,73]⟩,[aN (⟨#[65,65,65,58]⟩++ai o.price)]⟩,
   ⟨⟨#[82,70,70]⟩,[aN (⟨#[66,70,78,58]⟩++ai o.fund)]⟩,
   ⟨⟨#[85,78,84]⟩,[aN (⟨#[55]⟩),aN (⟨#[49]⟩)]⟩]
def aU (o:Ord):List Seg:=if bV o then eF o else []
inductive RdAll {α:Type} (T:Ty α) (D:Nat→Prop) (w:World):List (List Value)→List α→Prop where
  | nil:RdAll T D w [] []
  | cons {c:List Value} {x:α} {css:List (List Value)} {xs:List α} (h:T.rd D w c x) (t:RdAll T D w css xs):RdAll T D w (c::css) (x::xs)
theorem RdAll.len {α:Type} {T:Ty α} {D:Nat→Prop} {w:World}:∀ {css:List (List Value)} {xs:List α},RdAll T D w css xs→css.length=xs.length∧css.flatten.length=xs.length*T.size
  | [],[],.nil=>⟨rfl,by simp⟩
  | _::_,_::_,.cons h t=>by
    have ih:=t.len
    have:=T.len h
    refine ⟨by simp [ih.1],?_⟩
    rw [List.flatten_cons,List.length_append,ih.2,this,List.length_cons,Nat.succ_mul,Nat.add_comm]
theorem RdAll.at {α:Type} {T:Ty α} {D:Nat→Prop} {w:World}:∀ {css:List (List Value)} {xs:List α},RdAll T D w css xs→∀ j (h1:j < css.length) (h2:j < xs.length),T.rd D w css[j] xs[j]
  | _,_,.nil,_,h,_=>by simp at h
  | _,_,.cons h t,0,_,_=>h
  | _,_,.cons h t,j+1,h1,h2=>t.at j (by simpa using h1) (by simpa using h2)
theorem RdAll.rd {α:Type} {T:Ty α} {w:World} {own:List (Nat×Obj)} {ro:List av} {e:TypeId} {b n:Nat} {css:List (List Value)} {xs:List α} {w0:World} (h:RdAll T (dC w0 own) w css xs) (hm:Mem w own ro) (hin:(b,Obj.cells css.flatten.toArray e)∈own) (hb:(w0,fun _=>True)∈ro) (hn:n=xs.length) (hx:xs.length≤maxLen) :
    ab T (fun b=>w0.heap.size≤b) w (.slice (some ⟨b,0,none⟩) n n) xs:=by
  subst hn
  have hl:=h.len
  have hT:cZ T (dC w0 own) w (some (b,css.flatten,xs.length)) xs:=⟨css,hl.1,cE hl.2 hx,h.at⟩
  exact hT.rd hm (fun p hp=>by rw [List.mem_singleton.1 hp]; exact hin) (fun _ h=>h.1) (fun p hp=>by rw [List.mem_singleton.1 hp]; exact hm.newer hb hin) rfl
end Go.PK

namespace Go.PK
open Go Go.RowKit
theorem dT {α:Type} {l:List α} {k:Nat} {d:α} (h:k < l.length):l.getD k d=l[k]:=by rw [List.getD_eq_getElem?_getD,List.getElem?_eq_getElem h]; rfl
end Go.PK

namespace Go.PK
open Go Go.RowKit
section
variable {P:Program} {n:Nat} {l:List (Nat×Value)} {own:List (Nat×Obj)} {ro:List av} {ty t t':TypeId} {x y:Operand} {k k':IntKind} {a b:Int}
theorem v_conv64 {td:TypeDesc} (hs:P.underlying t=some td) (hd:P.underlying t'=some (.int .i64)) (hx:ev l x=some (.int k a)) (h:-9223372036854775808≤a∧a≤9223372036854775807):cx P n l own ro (.convert t t' x) ty (.int .i64 a):=by
  have:=me (n:=n) (own:=own) (ro:=ro) (ty:=ty) hs hd hx
  rwa [eV h] at this
theorem mw {a b:Nat} (hx:ev l x=some (.int k (a:Nat))) (hy:ev l y=some (.int k (b:Nat))) (h0:b≠0):cx P n l own ro (.binOp .rem t x y t') ty (.int k ((a%b:Nat):Int)) :=
  jL hx hy (by omega)
theorem v_quoN {a b:Nat} (hx:ev l x=some (.int .i64 (a:Nat))) (hy:ev l y=some (.int .i64 (b:Nat))) (h0:b≠0) (h:a≤9223372036854775807):cx P n l own ro (.binOp .quo t x y t') ty (.int .i64 ((a / b:Nat):Int)) :=
  iq (c:=((a / b:Nat):Int)) hx hy (by omega) rfl (by have h2:=Nat.div_le_self a b; generalize a / b=q at h2 ⊢; constructor <;> omega)
theorem t6 {e:TypeId} {A:Option Addr} {len cap i m:Nat} {kk:IntKind} (ht:P.underlying t=some (.slice e)) (hs:(P.info? e).map (·.size)=some m) (hx:ev l x=some (.slice A len cap)) (hy:ev l y=some (.int kk (i:Nat))) (hi:i≤len) (hc:len≤cap) :
    cx P n l own ro (.slice t x (some y) none none) ty (.slice (if cap=i then A else A.map (fun a=>a.add (i*m))) (len - i) (cap - i)):=by
  intro a w o ha hw ho _
  have h2:(Instr.sliceAt t (.slice A len cap) (some (.int kk (i:Nat))) none none).run P w=.ok (.slice (if cap=i then A else A.map (fun a=>a.add (i*m))) (len - i) (cap - i)) w:=by
    simp [Instr.sliceAt,Instr.slice,Instr.sliceBounds,Instr.sliceBound,asIntOf,run_underlying ht,hi,run_sizeOf hs]
  simp [execOp,ho,ha.eval hx,ha.eval hy,h2]
theorem nt {a b:List UInt8} (hx:ev l x=some (.string ⟨a.toArray⟩)) (hy:ev l y=some (.string ⟨b.toArray⟩)) (h:a.length+b.length≤9223372036854775807):cx P n l own ro (.binOp .add t x y t') ty (.string ⟨(a++b).toArray⟩):=by
  rw [← iQ]
  exact cK hx hy (by rw [cU,cU]; exact h)
end
end Go.PK

namespace Go.PK
open Go Go.RowKit
theorem bz {s:ByteArray} (h:s.size≤100000):iD s:=by unfold iD; omega
theorem gQ {α:Type} {T:Ty α} {D:Nat→Prop} {w:World} {own:List (Nat×Obj)} {ro:List av} {b n:Nat} {e:TypeId} (css:List (List Value)) {xs:List α} (hm:Mem w own ro) (hb:(b,Obj.cells css.flatten.toArray e)∈own)
    (hn:n=xs.length) (hmx:xs.length≤9223372036854775807) (hD:D b) (hrd:qi T D w css xs):ab T D w (.slice (some ⟨b,0,none⟩) n n) xs :=
  lits_rd css (hm.own_at _ hb) rfl hn hmx hD hrd
theorem eZ {α:Type} {T:Ty α} {w w0:World} {own:List (Nat×Obj)} {ro:List av} {b n:Nat} {e:TypeId} (css:List (List Value)) {xs:List α} (hm:Mem w own ro) (hs:(w0,fun _=>True)∈ro) (hb:(b,Obj.cells css.flatten.toArray e)∈own)
    (hn:n=xs.length) (hmx:xs.length≤9223372036854775807) (hrd:qi T (fun b=>w0.heap.size≤b) w css xs):ab T (fun b=>w0.heap.size≤b) w (.slice (some ⟨b,0,none⟩) n n) xs :=
  gQ css hm hb hn hmx (hm.newer hs hb) hrd
end Go.PK

namespace Go.PK
open Go Go.RowKit
def iR (c:UInt8):Bool:=decide (48≤c.toNat∧c.toNat≤57)
def fy (l:List UInt8) (a:Nat):Nat:=l.foldl (fun a c=>10*a+(c.toNat - 48)) a
theorem mx (l:List UInt8) (c:UInt8) (a:Nat):fy (l++[c]) a=10*fy l a+(c.toNat - 48):=by simp [fy]
def fA (l:List UInt8):Prop:=l≠[]∧(∀ c∈l,iR c=true)∧(1 < l.length→l.head?≠some 48)
instance (l:List UInt8):Decidable (fA l):=by unfold fA; infer_instance
theorem ol {d:Nat} (h:d < 10):(UInt8.ofNat (48+d)).toNat=48+d:=by
  rw [UInt8.toNat_ofNat_of_lt' (by show _ < 256; omega)]
theorem t7 {d:Nat} (h:d < 10):iR (UInt8.ofNat (48+d))=true:=by
  unfold iR; rw [ol h]; exact decide_eq_true (by omega)
theorem t8 {c:UInt8} (h:iR c=true):UInt8.ofNat (48+(c.toNat - 48))=c:=by
  have:=of_decide_eq_true h
  rw [show 48+(c.toNat - 48)=c.toNat by omega]
  exact UInt8.ofNat_toNat
theorem eK {u:Nat} (h:u < 10):Lib.decDigits u=[UInt8.ofNat (48+u)]:=by rw [Lib.decDigits,dif_pos h]
theorem ke {u:Nat} (h:¬u < 10):Lib.decDigits u=Lib.decDigits (u / 10)++[UInt8.ofNat (48+u%10)]:=by rw [Lib.decDigits,dif_neg h]
theorem xf:∀ (n u:Nat),u≤n→fy (Lib.decDigits u) 0=u
  | 0,u,h=>by rw [eK (by omega)]; show 10*0+((UInt8.ofNat (48+u)).toNat - 48)=u; rw [ol (by omega)]; omega
  | n+1,u,h=>by
    by_cases hu:u < 10
    · rw [eK hu]; show 10*0+((UInt8.ofNat (48+u)).toNat - 48)=u; rw [ol hu]; omega
    · rw [ke hu,mx,xf n (u / 10) (by omega),ol (by omega)]; omega
theorem my:∀ (n u:Nat),u≤n→fA (Lib.decDigits u)∧(0 < u→(Lib.decDigits u).head?≠some 48)
  | n,u,h=>by
    by_cases hu:u < 10
    · rw [eK hu]
      refine ⟨⟨by simp,fun c hc=>by rw [List.mem_singleton.1 hc]; exact t7 hu,fun h=>by simp at h⟩,fun h0 h1=>?_⟩
      have h1:UInt8.ofNat (48+u)=48:=by simpa using h1
      have:=congrArg UInt8.toNat h1
      rw [ol hu] at this
      have e:(48:UInt8).toNat=48:=rfl
      omega
    · match n with
      | 0=>omega
      | n+1 =>
        obtain ⟨⟨a1,a2,a3⟩,a4⟩:=my n (u / 10) (by omega)
        rw [ke hu]
        have hh:(Lib.decDigits (u / 10)++[UInt8.ofNat (48+u%10)]).head?=(Lib.decDigits (u / 10)).head?:=by
          cases hd:Lib.decDigits (u / 10) with
          | nil=>exact absurd hd a1
          | cons x l=>rfl
        refine ⟨⟨by simp,fun c hc=>?_,fun _=>by rw [hh]; exact a4 (by omega)⟩,fun _=>by rw [hh]; exact a4 (by omega)⟩
        rcases List.mem_append.1 hc with hc | hc
        · exact a2 c hc
        · rw [List.mem_singleton.1 hc]; exact t7 (by omega)
theorem qF:∀ (n:Nat) (l:List UInt8),l.length≤n→fA l→Lib.decDigits (fy l 0)=l
  | 0,l,h,hc=>absurd (List.eq_nil_of_length_eq_zero (by omega)) hc.1
  | n+1,l,h,hc=>by
    obtain ⟨h1,h2,h3⟩:=hc
    rcases List.eq_nil_or_concat l with rfl | ⟨m,c,rfl⟩
    · exact absurd rfl h1
    · rw [List.concat_eq_append] at h h2 h3 ⊢
      have hcd:iR c=true:=h2 c (by simp)
      have hcr:=of_decide_eq_true hcd
      rw [mx]
      by_cases hm:m=[]
      · subst hm
        show Lib.decDigits (10*0+(c.toNat - 48))=[c]
        rw [eK (by omega),show 10*0+(c.toNat - 48)=c.toNat - 48 by omega,t8 hcd]
      · have hcm:fA m:=by
          refine ⟨hm,fun x hx=>h2 x (List.mem_append_left _ hx),fun hl=>?_⟩
          have h4:=h3 (by rw [List.length_append,List.length_singleton]; omega)
          cases m with
          | nil=>exact absurd rfl hm
          | cons x m=>exact h4
        have ih:=qF n m (by rw [List.length_append,List.length_singleton] at h; omega) hcm
        have hpos:0 < fy m 0:=by
          rcases Nat.eq_zero_or_pos (fy m 0) with h0 | h0
          · exfalso
            rw [h0,eK (by omega)] at ih
            rw [← ih] at h3
            exact h3 (by simp) rfl
          · exact h0
        rw [ke (by omega),show (10*fy m 0+(c.toNat - 48)) / 10=fy m 0 by omega,ih,show (10*fy m 0+(c.toNat - 48))%10=c.toNat - 48 by omega,t8 hcd]
theorem rZ:∀ (k u:Nat),(Lib.decDigits u).length≤k+1↔u < 10 ^ (k+1)
  | 0,u=>by
    by_cases hu:u < 10
    · rw [eK hu]; simp; omega
    · rw [ke hu]
      have:=(my _ (u / 10) (Nat.le_refl _)).1.1
      have h2:=List.length_pos_iff.2 this
      rw [List.length_append,List.length_singleton]
      constructor
      · intro h; omega
      · intro h; simp at h; omega
  | k+1,u=>by
    by_cases hu:u < 10
    · rw [eK hu]
      have:10 ^ 1≤10 ^ (k+1+1):=Nat.pow_le_pow_right (by decide) (by omega)
      simp; omega
    · rw [ke hu,List.length_append,List.length_singleton]
      have ih:=rZ k (u / 10)
      have e:10 ^ (k+1+1)=10*10 ^ (k+1):=by rw [Nat.pow_succ,Nat.mul_comm]
      rw [e]
      constructor
      · intro h; have:=ih.1 (by omega); omega
      · intro h; have:=ih.2 (by omega); omega
theorem ua:∀ (l:List UInt8) (k a:Nat),(∀ c∈l,iR c=true)→a < 10 ^ k→k+l.length≤18→Lib.parseUint10 a l=.ok (fy l a)
  | [],_,_,_,_,_=>rfl
  | c::l,k,a,hd,ha,hk=>by
    have hc:=of_decide_eq_true (hd c (List.mem_cons_self ..))
    have e:10 ^ (k+1)=10*10 ^ k:=by rw [Nat.pow_succ,Nat.mul_comm]
    have hp:10 ^ (k+1)≤10 ^ 18:=Nat.pow_le_pow_right (by decide) (by rw [List.length_cons] at hk; omega)
    have hp2:(10:Nat) ^ 18=1000000000000000000:=by decide
    rw [Lib.parseUint10,if_pos hc,if_neg (by omega),if_neg (by omega)]
    rw [ua l (k+1) (a*10+(c.toNat - 48)) (fun x hx=>hd x (List.mem_cons_of_mem _ hx)) (by omega) (by rw [List.length_cons] at hk; omega)]
    show Lib.NumEnd.ok (fy l _)=.ok (fy l (10*a+(c.toNat - 48)))
    rw [Nat.mul_comm a 10]
theorem ub {l:List UInt8} (h:fA l) (hk:l.length≤18):Lib.atoiAll l=.ok ((fy l 0:Nat):Int):=by
  obtain ⟨h1,h2,_⟩:=h
  cases l with
  | nil=>exact absurd rfl h1
  | cons c r =>
    have hc:=of_decide_eq_true (h2 c (List.mem_cons_self ..))
    have hp:=ua (c::r) 0 0 h2 (by decide) (by omega)
    unfold Lib.atoiAll
    dsimp only
    rw [if_neg (by omega)]
    unfold Lib.parseMag
    rw [if_neg (by simp),hp]
    dsimp only
    have hlt:fy (c::r) 0 < 10 ^ 18:=by
      have key:∀ (l:List UInt8) (k a:Nat),(∀ c∈l,iR c=true)→a < 10 ^ k→fy l a < 10 ^ (k+l.length):=by
        intro l
        induction l with
        | nil=>intro k a _ ha; exact ha
        | cons x l ih =>
          intro k a hd ha
          have hx:=of_decide_eq_true (hd x (List.mem_cons_self ..))
          have e:10 ^ (k+1)=10*10 ^ k:=by rw [Nat.pow_succ,Nat.mul_comm]
          have:=ih (k+1) (10*a+(x.toNat - 48)) (fun y hy=>hd y (List.mem_cons_of_mem _ hy)) (by omega)
          rw [List.length_cons,show k+(l.length+1)=k+1+l.length by omega]
          exact this
      have h3:=key (c::r) 0 0 h2 (by decide)
      have h4:10 ^ (0+(c::r).length)≤10 ^ 18:=Nat.pow_le_pow_right (by decide) (by omega)
      omega
    have hp2:(10:Nat) ^ 18=1000000000000000000:=by decide
    rw [if_neg (by omega),if_neg (by omega),if_neg (by omega)]
def cA (s:ByteArray):Int:=match Lib.atoiAll (bl s) with | .ok v=>if s.size≤18 then v else -1 | _=>-1
theorem m5 {s:ByteArray} (h:fA (bl s)) (hk:s.size≤18):cA s=((fy (bl s) 0:Nat):Int):=by
  unfold cA
  rw [ub h (by rw [a8]; exact hk)]
  dsimp only
  rw [if_pos hk]
theorem vw {s:ByteArray} (h:0≤cA s):s.size≤18:=by
  unfold cA at h
  split at h
  · split at h
    · assumption
    · omega
  · omega
theorem qG (u:Nat):ai (u:Int)=⟨(Lib.decDigits u).toArray⟩:=by
  unfold ai Lib.itoa; rw [if_neg (by omega),Int.toNat_natCast]
theorem om {n:Int} (h:0≤n):bl (ai n)=Lib.decDigits n.toNat:=by
  unfold ai Lib.itoa; rw [if_neg (by omega)]; rfl
theorem jr {n:Int} (h:0≤n):fA (bl (ai n)):=by rw [om h]; exact (my _ _ (Nat.le_refl _)).1
theorem uc {n:Int} (h:0≤n):((fy (bl (ai n)) 0:Nat):Int)=n:=by rw [om h,xf _ _ (Nat.le_refl _)]; omega
theorem lN {n:Int} (h:0≤n) (k:Nat):(ai n).size≤k+1↔n < 10 ^ (k+1):=by
  rw [← a8,om h,rZ]
  constructor
  · intro h2
    have h3:((n.toNat:Nat):Int) < ((10 ^ (k+1):Nat):Int):=Int.ofNat_lt.2 h2
    rw [Int.toNat_of_nonneg h] at h3
    simpa using h3
  · intro h2
    have h3:((n.toNat:Nat):Int) < ((10 ^ (k+1):Nat):Int):=by rw [Int.toNat_of_nonneg h]; simpa using h2
    exact Int.ofNat_lt.1 h3
theorem oq {s:ByteArray} (h:fA (bl s)):ai ((fy (bl s) 0:Nat):Int)=s:=by
  rw [qG,qF _ _ (Nat.le_refl _) h,fx]
theorem vx {n:Int} (h:0≤n) (h2:n < 1000000000000000000):cA (ai n)=n:=by
  rw [m5 (jr h) ((lN h 17).2 (by have:(10:Int) ^ (17+1)=1000000000000000000:=(by decide); omega)),uc h]
def dV (s:ByteArray) (most:Nat):Int×Bool:=if fA (bl s)∧s.size≤most then (((fy (bl s) 0:Nat):Int),true) else (0,false)
theorem qH {n:Int} (h:0≤n) (k:Nat) (h2:n < 10 ^ (k+1)):dV (ai n) (k+1)=(n,true):=by
  unfold dV; rw [if_pos ⟨jr h,(lN h k).2 h2⟩,uc h]
theorem xg {s:ByteArray} {m:Nat} (h:(dV s m).2=true):ai (dV s m).1=s∧0≤(dV s m).1∧s.size≤m∧fA (bl s):=by
  unfold dV at h ⊢
  split
  · rename_i hc; exact ⟨oq hc.1,Int.natCast_nonneg _,hc.2,hc.1⟩
  · rename_i hc; rw [if_neg hc] at h; cases h
theorem kR {e:ByteArray} (h:∀ c∈bl e,c≠58):aN e=[e]:=by
  unfold aN
  have:Lib.countB e jB=0:=by
    show Lib.count (bl e) [58]=0
    rw [Lib.count_one,List.count_eq_zero]
    exact fun hc=>h 58 hc rfl
  rw [this,Lib.splitB_zero]
theorem iw (a b:ByteArray):bl (a++b)=bl a++bl b:=by
  unfold bl; rw [ByteArray.data_append,Array.toList_append]
theorem qI (a b:ByteArray):(a++b).extract 0 a.size=a:=by
  have:bl ((a++b).extract 0 a.size)=bl a:=by
    show ((a++b).extract 0 a.size).data.toList=_
    rw [ByteArray.data_extract,Array.toList_extract,List.extract_eq_take_drop]
    show ((bl (a++b)).drop 0).take (a.size - 0)=_
    rw [iw,List.drop_zero,Nat.sub_zero,← a8 a,List.take_left]
  rw [← fx ((a++b).extract 0 a.size),this,fx]
theorem qJ (a b:ByteArray):(a++b).extract a.size (a++b).size=b:=by
  have:bl ((a++b).extract a.size (a++b).size)=bl b:=by
    show ((a++b).extract a.size (a++b).size).data.toList=_
    rw [ByteArray.data_extract,Array.toList_extract,List.extract_eq_take_drop]
    show ((bl (a++b)).drop a.size).take _=_
    rw [iw,← a8 a,List.drop_left,ByteArray.size_append,← a8 a,← a8 b,Nat.add_sub_cancel_left,List.take_length]
  rw [← fx ((a++b).extract a.size (a++b).size),this,fx]
theorem ot:∀ (a b:List UInt8) (x:UInt8),(∀ c∈a,c≠x)→Lib.indexByte (a++x::b) x=(a.length:Nat)
  | [],b,x,_=>by show Lib.indexByte (x::b) x=0; unfold Lib.indexByte; rw [if_pos (by simp)]
  | y::a,b,x,h=>by
    have ih:=ot a b x (fun c hc=>h c (List.mem_cons_of_mem _ hc))
    have hy:=h y (List.mem_cons_self ..)
    show Lib.indexByte (y::(a++x::b)) x=_
    unfold Lib.indexByte
    rw [if_neg (by simpa using hy),ih,if_neg (by simp),List.length_cons]
    omega
theorem idx_sep (a b:ByteArray) (x:UInt8) (h:∀ c∈bl a,c≠x):Lib.indexB ((a++⟨#[x]⟩)++b) ⟨#[x]⟩=(a.size:Nat):=by
  show Lib.index (bl ((a++⟨#[x]⟩)++b)) [x]=_
  rw [Lib.index_one,iw,iw,List.append_assoc]
  show Lib.indexByte (bl a++x::bl b) x=_
  rw [ot _ _ _ h,a8]
theorem mz {a b:ByteArray} (ha:∀ c∈bl a,c≠58) (hb:∀ c∈bl b,c≠58):aN ((a++⟨#[58]⟩)++b)=[a,b]:=by
  unfold aN
  have:Lib.countB ((a++⟨#[58]⟩)++b) jB=1:=by
    show Lib.count (bl ((a++⟨#[58]⟩)++b)) [58]=1
    rw [Lib.count_one,iw,iw,List.count_append,List.count_append,List.count_eq_zero.2 (fun hc=>ha 58 hc rfl),List.count_eq_zero.2 (fun hc=>hb 58 hc rfl)]
    rfl
  rw [this,Lib.splitB_hit jB 0 0 _ a.size (idx_sep a b 58 ha),Lib.splitB_zero]
  have e1:jB.size=1:=rfl
  have e2:a.size+jB.size=(a++(⟨#[58]⟩:ByteArray)).size:=by rw [ByteArray.size_append,e1]; rfl
  rw [e2,qJ,Nat.add_zero,ByteArray.append_assoc,qI]
theorem dig_ne {c x:UInt8} (h:iR c=true) (hx:x.toNat < 48∨57 < x.toNat):c≠x:=fun e=>by
  have:=of_decide_eq_true h
  rw [e] at this; omega
theorem il {n:Int} (h:0≤n) {x:UInt8} (hx:x.toNat < 48∨57 < x.toNat):∀ c∈bl (ai n),c≠x:=fun c hc=>dig_ne ((jr h).2.1 c hc) hx
end Go.PK

namespace Go.PK
open Go Go.RowKit
def Ord.okA (o:Ord):Prop:=o.ok∧aj o.prom∧aj o.paid∧aj o.st
def dE:Ty Ord where
  size:=9
  rd:=fun _ _ cs o=>cs=o.cells∧o.okA
  len:=fun h=>by rw [h.1]; rfl
  keep:=fun h _=>h
theorem jW {D:Nat→Prop} {w:World} {A:Option Addr} {l c:Nat} {xs:List Ord} (h:ab dE D w (.slice A l c) xs) {k:Nat} (hk:k < xs.length) :
    ∃ b off,A=some ⟨b,off,none⟩∧D b∧(∀ i (hi:i < 9),w.cell? ⟨b,off+k*9+i,none⟩=some (xs[k].cells[i]'hi))∧xs[k].okA:=by
  obtain ⟨A',c',e,h1,h2,h3⟩:=h
  injection e with e1 e2 e3
  subst e1 e2 e3
  obtain ⟨b,off,rfl,hD,hb,hc⟩:=h3 (by omega)
  obtain ⟨cs,hcs,rfl,hok⟩:=hc k hk
  exact ⟨b,off,rfl,hD,fun i hi=>hcs i hi,hok⟩
def ud (l:List Seg) (n e c:Nat):Option ByteArray:=((l[n]?).bind fun x=>x.els[e]?).bind fun y=>y[c]?
def kJ (l:List Seg) (n e c:Nat):ByteArray:=(ud l n e c).getD ⟨#[]⟩
def kf (l:List Seg) (n e c:Nat):Int×Bool:=match ud l n e c with | some s=>dV s 9 | none=>(0,false)
def iS (s:ByteArray):ByteArray×ByteArray×Bool:=(⟨(Lib.cut (bl s) [46]).1.toArray⟩,⟨(Lib.cut (bl s) [46]).2.1.toArray⟩,(Lib.cut (bl s) [46]).2.2)
def ue (s:ByteArray):Int×Int:=(cA (iS s).1,cA (iS s).2.1)
def jX (s:ByteArray):(Int×Int)×Bool:=if (iS s).2.2 then (((dV (iS s).1 9).1,(dV (iS s).2.1 9).1),(dV (iS s).1 9).2 && (dV (iS s).2.1 9).2) else ((0,0),false)
def ep (l:List Seg) (n:Nat):(Int×Int)×Bool:=match (l[n]?).bind (fun x=>x.els[2]?) with | none=>((0,0),false) | some y=>match y[0]? with | none=>((0,0),false) | some s=>jX s
theorem cut_at {s:ByteArray} {k:Nat} (hk:k < s.size) (h1:∀ j,j < k→ad s j≠46) (h2:ad s k=46):iS s=(s.extract 0 k,s.extract (k+1) s.size,true):=by
  have hi:Lib.index (bl s) [46]=(k:Nat):=by
    have e:bl s=(bl s).take k++46::(bl s).drop (k+1):=by
      rw [← h2,← iv (by rw [a8]; exact hk),List.getElem_cons_drop,List.take_append_drop]
    rw [Lib.index_one,e,ot _ _ _ (fun c hc=>?_),List.length_take,a8]
    · congr 1; omega
    · obtain ⟨j,hj,rfl⟩:=List.getElem_of_mem hc
      rw [List.length_take,a8] at hj
      rw [List.getElem_take,iv]
      exact h1 j (by omega)
  have e1:∀ a b,bl (s.extract a b)=((bl s).drop a).take (b - a):=fun a b=>by
    show (s.extract a b).data.toList=_
    rw [ByteArray.data_extract,Array.toList_extract,List.extract_eq_take_drop]; rfl
  unfold iS Lib.cut
  rw [hi]
  simp only [show ((k:Nat):Int)≥0 from Int.natCast_nonneg k,if_true,Int.toNat_natCast]
  refine Prod.ext ?_ (Prod.ext ?_ ?_)
  · show (⟨_⟩:ByteArray)=s.extract 0 k
    rw [← fx (s.extract 0 k),e1]
    simp
  · show (⟨_⟩:ByteArray)=s.extract (k+1) s.size
    rw [← fx (s.extract (k+1) s.size),e1,List.take_of_length_le (by rw [List.length_drop,a8]; exact Nat.le_refl _)]
    simp
  · simp
theorem cut_no {s:ByteArray} (h:∀ j,j < s.size→ad s j≠46):(iS s).2.2=false:=by
  have hi:Lib.index (bl s) [46]=-1:=by
    rcases Lib.index_spec (bl s) [46] with h1 | ⟨i,h1,h2,h3⟩
    · exact h1.1
    · exfalso
      rw [Lib.index_one] at h1
      obtain ⟨h4,_⟩:=Lib.indexByte_some h1
      obtain ⟨hl,h5⟩:=List.getElem?_eq_some_iff.1 h4
      rw [iv hl] at h5
      exact h i (by rw [a8] at hl; exact hl) h5
  unfold iS Lib.cut
  rw [hi]
  simp
def mkO (id fund:Int) (r:Int×Int) (copies price:Int):Ord:=⟨id,fund,r.1,r.2,copies,price,0,0,0⟩
def co:Ord:=⟨0,0,0,0,0,0,0,0,0⟩
def dD (s n:Int):ByteArray:=(ai s++⟨#[46]⟩)++ai n
def bT (o:Ord):List Seg :=
  [⟨⟨#[85,78,72]⟩,[[⟨#[49]⟩],[⟨#[79,82,68,69,82,83]⟩,⟨#[68]⟩,⟨#[57,54,65]⟩,⟨#[85,78]⟩]]⟩,
   ⟨⟨#[66,71,77]⟩,[[⟨#[50,50,48]⟩],[ai o.id]]⟩,
   ⟨⟨#[76,73,78]⟩,[[ai 1],[⟨#[]⟩],[dD o.src o.num,⟨#[83,82,86]⟩]]⟩,
   ⟨⟨#[81,84,89]⟩,[[⟨#[50,49]⟩,ai o.copies]]⟩,
   ⟨⟨#[80,82,73]⟩,[[⟨#[65,65,65]⟩,ai o.price]]⟩,
   ⟨⟨#[82,70,70]⟩,[[⟨#[66,70,78]⟩,ai o.fund]]⟩,
   ⟨⟨#[85,78,84]⟩,[[⟨#[55]⟩],[⟨#[49]⟩]]⟩]
def nnO (o:Ord):Prop:=0≤o.id∧0≤o.fund∧0≤o.src∧0≤o.num∧0≤o.copies∧0≤o.price
def ej (o:Ord):Prop:=(1≤o.id∧o.id≤999999999)∧(1≤o.fund∧o.fund≤999999999)∧(0≤o.src∧o.src≤999999999)∧(0≤o.num∧o.num≤999999999)∧(0≤o.price∧o.price≤999999999)∧(1≤o.copies∧o.copies≤9999)
instance (o:Ord):Decidable (ej o):=by unfold ej; infer_instance
theorem bB (o:Ord):bV o=true↔ej o:=by
  unfold bV wi ej
  simp only [List.any_cons,List.any_nil,Bool.or_false,Bool.and_eq_true,Bool.not_eq_true',Bool.or_eq_false_iff,decide_eq_false_iff_not]
  omega
theorem gR {o:Ord} (h:ej o):nnO o:=by unfold ej at h; unfold nnO; omega
theorem p3 (a b c:UInt8) (s:ByteArray):(⟨#[a,b,c]⟩:ByteArray)++s=((⟨#[a,b]⟩:ByteArray)++⟨#[c]⟩)++s:=rfl
theorem p4 (a b c d:UInt8) (s:ByteArray):(⟨#[a,b,c,d]⟩:ByteArray)++s=((⟨#[a,b,c]⟩:ByteArray)++⟨#[d]⟩)++s:=rfl
theorem c58:((58:UInt8).toNat < 48∨57 < (58:UInt8).toNat):=.inr (by decide)
theorem c46:((46:UInt8).toNat < 48∨57 < (46:UInt8).toNat):=.inl (by decide)
theorem recT_ne {s n:Int} (h1:0≤s) (h2:0≤n):∀ c∈bl (dD s n),c≠58:=by
  intro c hc
  unfold dD at hc
  rw [iw,iw] at hc
  rcases List.mem_append.1 hc with hc | hc
  · rcases List.mem_append.1 hc with hc | hc
    · exact il h1 c58 c hc
    · have:c=46:=by simpa [bl] using hc
      rw [this]; decide
  · exact il h2 c58 c hc
theorem qK {s n:Int} (h1:0≤s) (h2:0≤n):aN (kB s n)=[dD s n,⟨#[83,82,86]⟩]:=by
  have e:kB s n=(dD s n++⟨#[58]⟩)++⟨#[83,82,86]⟩:=by
    rw [ByteArray.append_assoc]; rfl
  rw [e,mz (recT_ne h1 h2) (by decide)]
theorem pre3 {a b:UInt8} {n:Int} (h:0≤n) (ha:a≠58) (hb:b≠58):aN ((⟨#[a,b,58]⟩:ByteArray)++ai n)=[⟨#[a,b]⟩,ai n]:=by
  rw [p3,mz (fun c hc=>by
    have:c=a∨c=b:=by simpa [bl] using hc
    rcases this with rfl | rfl <;> assumption) (il h c58)]
theorem pre4 {a b d:UInt8} {n:Int} (h:0≤n) (ha:a≠58) (hb:b≠58) (hd:d≠58):aN ((⟨#[a,b,d,58]⟩:ByteArray)++ai n)=[⟨#[a,b,d]⟩,ai n]:=by
  rw [p4,mz (fun c hc=>by
    have:c=a∨c=b∨c=d:=by simpa [bl] using hc
    rcases this with rfl | rfl | rfl <;> assumption) (il h c58)]
theorem itoa_one:ai 1=⟨#[49]⟩:=by decide +kernel
theorem eq {o:Ord} (h:nnO o):eF o=bT o:=by
  obtain ⟨h1,h2,h3,h4,h5,h6⟩:=h
  unfold eF bT
  rw [kR (il h1 c58),qK h3 h4,pre3 h5 (by decide) (by decide),pre4 h6 (by decide) (by decide) (by decide),pre4 h2 (by decide) (by decide) (by decide),itoa_one]
  congr 1
theorem sa {s n:Int} (h1:0≤s) (h2:0≤n):iS (dD s n)=(ai s,ai n,true):=by
  have hsz:(dD s n).size=(ai s).size+1+(ai n).size:=by unfold dD; rw [ByteArray.size_append,ByteArray.size_append]; rfl
  have hb:bl (dD s n)=bl (ai s)++46::bl (ai n):=by unfold dD; rw [iw,iw,List.append_assoc]; rfl
  have hat:∀ j,ad (dD s n) j=(bl (ai s)++46::bl (ai n)).getD j 0:=fun j=>by rw [← hb]; rfl
  rw [cut_at (k:=(ai s).size) (by omega) (fun j hj=>?_) (by rw [hat,← a8,List.getD_eq_getElem?_getD,List.getElem?_append_right (Nat.le_refl _),Nat.sub_self]; rfl)]
  · refine Prod.ext ?_ (Prod.ext ?_ rfl)
    · show (dD s n).extract 0 (ai s).size=_
      unfold dD; rw [ByteArray.append_assoc]; exact qI _ _
    · show (dD s n).extract ((ai s).size+1) (dD s n).size=_
      have e:(ai s).size+1=(ai s++(⟨#[46]⟩:ByteArray)).size:=by rw [ByteArray.size_append]; rfl
      rw [e]; exact qJ _ _
  · rw [hat,List.getD_eq_getElem?_getD,List.getElem?_append_left (by rw [a8]; exact hj),List.getElem?_eq_getElem (by rw [a8]; exact hj)]
    exact il h1 c46 _ (List.getElem_mem _)
def ma (l:List Seg):Ord:=mkO (cA (kJ l 1 1 0)) (cA (kJ l 5 0 1)) (ue (kJ l 2 2 0)) (cA (kJ l 3 0 1)) (cA (kJ l 4 0 1))
def pI (l:List Seg):Ord×Int:=if ej (ma l)∧eF (ma l)=l then (ma l,0) else (co,11)
def mA (l:List Seg):Ord:=mkO (kf l 1 1 0).1 (kf l 5 0 1).1 (ep l 2).1 (kf l 3 0 1).1 (kf l 4 0 1).1
def yK (l:List Seg):Ord×Int:=if ((((ep l 2).2=true∧(kf l 1 1 0).2=true)∧(kf l 3 0 1).2=true)∧(kf l 4 0 1).2=true)∧(kf l 5 0 1).2=true∧ej (mA l)∧bT (mA l)=l then (mA l,0) else (co,11)
theorem ou {n:Int} (h:0≤n) (h2:n≤999999999):dV (ai n) 9=(n,true):=by
  have e:(10:Int) ^ (8+1)=1000000000:=by decide
  exact qH h 8 (by omega)
theorem jY {n:Int} (h:0≤n) (h2:n≤999999999):cA (ai n)=n:=vx h (by omega)
def ov (o:Ord):Ord:={ o with prom:=0,paid:=0,st:=0 }
theorem rd_of {o:Ord} (h:ej o):ma (bT o)=ov o∧mA (bT o)=ov o∧(ep (bT o) 2).2=true∧(kf (bT o) 1 1 0).2=true∧(kf (bT o) 3 0 1).2=true∧(kf (bT o) 4 0 1).2=true∧(kf (bT o) 5 0 1).2=true:=by
  obtain ⟨⟨a1,a2⟩,⟨b1,b2⟩,⟨c1,c2⟩,⟨d1,d2⟩,⟨e1,e2⟩,⟨f1,f2⟩⟩:=h
  have t1:ud (bT o) 1 1 0=some (ai o.id):=rfl
  have t2:ud (bT o) 2 2 0=some (dD o.src o.num):=rfl
  have t3:ud (bT o) 3 0 1=some (ai o.copies):=rfl
  have t4:ud (bT o) 4 0 1=some (ai o.price):=rfl
  have t5:ud (bT o) 5 0 1=some (ai o.fund):=rfl
  have hr:ep (bT o) 2=jX (dD o.src o.num):=rfl
  have hr2:jX (dD o.src o.num)=((o.src,o.num),true):=by
    unfold jX; rw [sa c1 d1]; simp only [if_true,ou c1 c2,ou d1 d2]; rfl
  unfold ma mA kf kJ
  rw [hr,hr2,t1,t2,t3,t4,t5]
  simp only [Option.getD_some,ou (show 0≤o.id by omega) a2,ou (show 0≤o.fund by omega) b2,ou (show 0≤o.copies by omega) (show o.copies≤999999999 by omega),ou e1 e2,jY (show 0≤o.id by omega) a2,jY (show 0≤o.fund by omega) b2,jY (show 0≤o.copies by omega) (show o.copies≤999999999 by omega),jY e1 e2]
  refine ⟨?_,?_,trivial,trivial,trivial,trivial,trivial⟩
  · unfold ue; rw [sa c1 d1]; simp only [jY c1 c2,jY d1 d2]; rfl
  · rfl
theorem vy {o:Ord} (h:ej o):pI (bT o)=(ov o,0)∧yK (bT o)=(ov o,0):=by
  obtain ⟨h1,h2,h3,h4,h5,h6,h7⟩:=rd_of h
  have hw:ej (ov o):=h
  unfold pI yK
  rw [h1,h2]
  rw [if_pos ⟨hw,by rw [eq (gR hw)]; rfl⟩,if_pos ⟨⟨⟨⟨h3,h4⟩,h5⟩,h6⟩,h7,hw,rfl⟩]
  exact ⟨rfl,rfl⟩
theorem lO (l:List Seg):pI l=yK l:=by
  by_cases h1:ej (ma l)∧eF (ma l)=l
  · have e:l=bT (ma l):=by rw [← eq (gR h1.1)]; exact h1.2.symm
    generalize ma l=o at h1 e
    subst e
    rw [(vy h1.1).1,(vy h1.1).2]
  · by_cases h2:ej (mA l)∧bT (mA l)=l
    · exfalso
      have e:l=bT (mA l):=h2.2.symm
      apply h1
      generalize mA l=o at h2 e
      subst e
      rw [(rd_of h2.1).1]
      exact ⟨h2.1,by rw [eq (gR (show ej (ov o) from h2.1))]; rfl⟩
    · unfold pI yK
      rw [if_neg h1,if_neg (fun h=>h2 h.2.2)]
end Go.PK

namespace Go.PK
open Go Go.RowKit
section
variable {P:Program} {n:Nat} {l:List (Nat×Value)} {own:List (Nat×Obj)} {ro:List av} {ty t t':TypeId} {x y:Operand} {k k':IntKind} {a b:Int}
def sc (v:Value) (b:Bool):Prop:=(v=.nilIface∧b=false)∨(∃ d u,v=.iface d u)∧b=true
theorem v_ine {td:TypeDesc} {v:Value} {b:Bool} (ht:P.underlying t=some td) (hi:(match td with | .interface _=>true | _=>false)=true) (hx:ev l x=some v) (hv:sc v b):cx P n l own ro (.binOp .neq t x (.const .nilIface) t') ty (.bool b):=by
  intro A w o ha _ ho _
  have e:A.eval (.const .nilIface)=.nilIface:=rfl
  cases td <;> simp at hi
  rcases hv with ⟨rfl,rfl⟩ | ⟨⟨d,u,rfl⟩,rfl⟩
  · have h:∀ d:Nat,(Op.equalIn (d+1) t .nilIface .nilIface).run P w=.ok true w:=fun d=>by simp [Op.equalIn,run_underlying ht]
    have h2:(Op.equal t .nilIface .nilIface).run P w=.ok true w:=h 9999
    simp [execOp,ho,ha.eval hx,e,eqGuard,binOp,h2]
  · have h:∀ q:Nat,(Op.equalIn (q+1) t (.iface d u) .nilIface).run P w=.ok false w:=fun q=>by simp [Op.equalIn,run_underlying ht]
    have h2:(Op.equal t (.iface d u) .nilIface).run P w=.ok false w:=h 9999
    simp [execOp,ho,ha.eval hx,e,eqGuard,binOp,h2]
theorem kS {e:TypeId} {A:Option Addr} {m c:Nat} (ht:P.underlying t=some (.slice e)) (hx:ev l x=some (.slice A m c)):cx P n l own ro (.binOp .eql t x (.const (.slice none 0 0)) t') ty (.bool A.isNone):=by
  intro a w o ha _ ho _
  have e0:a.eval (.const (.slice none 0 0))=.slice none 0 0:=rfl
  have h:∀ d:Nat,(Op.equalIn (d+1) t (.slice A m c) (.slice none 0 0)).run P w=.ok A.isNone w:=fun d=>by
    cases A <;> simp [Op.equalIn,run_underlying ht]
  have h2:(Op.equal t (.slice A m c) (.slice none 0 0)).run P w=.ok A.isNone w:=h 9999
  simp [execOp,ho,ha.eval hx,e0,eqGuard,binOp,h2]
theorem v_subU8 {a b:Nat} (hx:ev l x=some (.int .u8 (a:Nat))) (hy:ev l y=some (.int .u8 (b:Nat))) (h:b≤a) (h2:a < 256):cx P n l own ro (.binOp .sub t x y t') ty (.int .u8 ((a - b:Nat):Int)):=by
  have h3:=v_sub (P:=P) (n:=n) (own:=own) (ro:=ro) (ty:=ty) (t:=t) (t':=t') hx hy
  rw [IntKind.wrap_u8,show ((a:Int) - (b:Int))%256=((a - b:Nat):Int) by omega] at h3
  exact h3
theorem jZ {td:TypeDesc} {c:Nat} (hs:P.underlying t=some td) (hd:P.underlying t'=some (.int .u8)) (hx:ev l x=some (.int k (c:Nat))) (h:c < 256):cx P n l own ro (.convert t t' x) ty (.int .u8 (((UInt8.ofNat c).toNat:Nat):Int)):=by
  have h3:=me (n:=n) (own:=own) (ro:=ro) (ty:=ty) hs hd hx
  rw [IntKind.wrap_u8,show ((c:Nat):Int)%256=((c:Nat):Int) by omega] at h3
  rw [UInt8.toNat_ofNat_of_lt' (by show _ < 256; omega)]
  exact h3
end
end Go.PK

namespace Go.PK
open Go Go.RowKit
section
variable {P:Program} {n:Nat} {l:List (Nat×Value)} {own:List (Nat×Obj)} {ro:List av} {Q:Exit→Act→World→Prop} {K:Act→World→Prop} {R:Ending→World→Prop} {fn:Func}
theorem yo {t u:Tmp} {ty:TypeId} {td:TypeDesc} {b:Nat} {cs:Array Value} {e:TypeId} {fz:Nat×Nat} {v:Value} (hr:fn.results=#[.cell t ty,.tmp u]) (hv:l.lookup t=some (.pointer (some ⟨b,0,none⟩))) (hu:l.lookup u=some v) (hb:(b,Obj.cells cs e fz)∈own)
    (ht:P.underlying ty=some td) (hd:jD td=true) (hs:(P.info? ty).map (·.size)=some cs.size) (h:∀ w',Mem w' own ro→R (.returned (.tuple #[.agg cs,v])) w'):S (bodyPost P fn R .ret) n l own ro:=by
  intro a w ha hw
  refine ⟨ha.df,_,?_,h w hw⟩
  have h1:=ha.at_ t _ hv
  have h2:=ha.at_ u _ hu
  rw [results_cell_tmp hr,show a.tmps.getD t undef=.pointer (some ⟨b,0,none⟩) by simp [Array.getD_eq_getD_getElem?,h1],show a.tmps.getD u undef=v by simp [Array.getD_eq_getD_getElem?,h2]]
  simp [asAddr,run_loadVar_row w b e ty cs fz td (hw.own_at _ hb) ht (by cases td <;> simp_all [jD]) hs]
end
theorem qM {P:Program} {f:FuncId} {u v:Value} {w:World} {Q:Ending→World→Prop} (h:Calls P f #[u,v] w Q):Calls P f (#[u,v]++#[]) w Q:=by simpa using h
def bw (l:List Seg) (n:Nat):Seg:=l.getD n ⟨⟨#[]⟩,[]⟩
def dI (x:List (List ByteArray)) (e:Nat):List ByteArray:=x.getD e []
theorem kg {D:Nat→Prop} {w:World} {A:Option Addr} {m c:Nat} {l:List Seg} (h:ab aZ D w (.slice A m c) l) (n:Nat) :
    ∃ b off EA ec,n < l.length→A=some ⟨b,off,none⟩∧D b∧w.cell? ⟨b,off+n*2,none⟩=some (.string (bw l n).tag)∧w.cell? ⟨b,off+n*2+1,none⟩=some (.slice EA (bw l n).els.length ec)∧iD (bw l n).tag∧ab (aP aX) D w (.slice EA (bw l n).els.length ec) (bw l n).els:=by
  by_cases hn:n < l.length
  · obtain ⟨b,o,v,h1,h2,h3,h4,h5,h6⟩:=mq h hn
    obtain ⟨EA,ec,rfl,_⟩:=id h6
    exact ⟨b,o,EA,ec,fun _=>by unfold bw; rw [dT hn]; exact ⟨h1,h2,h3,h4,h5,h6⟩⟩
  · exact ⟨0,0,none,0,fun h=>absurd h hn⟩
theorem kh {D:Nat→Prop} {w:World} {A:Option Addr} {m c:Nat} {x:List (List ByteArray)} {K:Prop} (h:K→ab (aP aX) D w (.slice A m c) x) (e:Nat) :
    ∃ b off FA fc,K→e < x.length→A=some ⟨b,off,none⟩∧D b∧w.cell? ⟨b,off+e,none⟩=some (.slice FA (dI x e).length fc)∧ab aX D w (.slice FA (dI x e).length fc) (dI x e):=by
  by_cases hk:K
  · by_cases he:e < x.length
    · obtain ⟨b,o,v,h1,h2,h3,h4⟩:=qy (h hk) he
      obtain ⟨FA,fc,rfl,_⟩:=id h4
      exact ⟨b,o,FA,fc,fun _ _=>by unfold dI; rw [dT he]; exact ⟨h1,h2,h3,h4⟩⟩
    · exact ⟨0,0,none,0,fun _ h=>absurd h he⟩
  · exact ⟨0,0,none,0,fun h=>absurd h hk⟩
theorem se {l:List Seg} {n e c:Nat} (h1:n < l.length) (h2:e < (bw l n).els.length) (h3:c < (dI (bw l n).els e).length):ud l n e c=some ((dI (bw l n).els e)[c]):=by
  have k1:l[n]?=some (bw l n):=by unfold bw; rw [dT h1,List.getElem?_eq_getElem h1]
  have k2:(bw l n).els[e]?=some (dI (bw l n).els e):=by unfold dI; rw [dT h2,List.getElem?_eq_getElem h2]
  unfold ud
  rw [k1]
  simp only [Option.bind_some,k2]
  rw [List.getElem?_eq_getElem h3]
theorem sf {l:List Seg} {n e c:Nat} (h:¬(n < l.length∧e < (bw l n).els.length∧c < (dI (bw l n).els e).length)):ud l n e c=none:=by
  unfold ud
  by_cases h1:n < l.length
  · have k1:l[n]?=some (bw l n):=by unfold bw; rw [dT h1,List.getElem?_eq_getElem h1]
    rw [k1]
    simp only [Option.bind_some]
    by_cases h2:e < (bw l n).els.length
    · have k2:(bw l n).els[e]?=some (dI (bw l n).els e):=by unfold dI; rw [dT h2,List.getElem?_eq_getElem h2]
      rw [k2]
      simp only [Option.bind_some]
      exact List.getElem?_eq_none (by have:=fun h3=>h ⟨h1,h2,h3⟩; omega)
    · rw [List.getElem?_eq_none (by omega)]; rfl
  · rw [List.getElem?_eq_none (by omega)]; rfl
theorem rrec_in {l:List Seg} {n:Nat} (h1:n < l.length) (h2:2 < (bw l n).els.length) (h3:0 < (dI (bw l n).els 2).length):ep l n=jX ((dI (bw l n).els 2)[0]):=by
  have k1:l[n]?=some (bw l n):=by unfold bw; rw [dT h1,List.getElem?_eq_getElem h1]
  have k2:(bw l n).els[2]?=some (dI (bw l n).els 2):=by unfold dI; rw [dT h2,List.getElem?_eq_getElem h2]
  unfold ep
  rw [k1]
  simp only [Option.bind_some,k2]
  rw [List.getElem?_eq_getElem h3]
theorem rrec_out {l:List Seg} {n:Nat} (h:¬(n < l.length∧2 < (bw l n).els.length∧0 < (dI (bw l n).els 2).length)):ep l n=((0,0),false):=by
  unfold ep
  by_cases h1:n < l.length
  · have k1:l[n]?=some (bw l n):=by unfold bw; rw [dT h1,List.getElem?_eq_getElem h1]
    rw [k1]
    simp only [Option.bind_some]
    by_cases h2:2 < (bw l n).els.length
    · have k2:(bw l n).els[2]?=some (dI (bw l n).els 2):=by unfold dI; rw [dT h2,List.getElem?_eq_getElem h2]
      rw [k2]
      dsimp only
      rw [List.getElem?_eq_none (by have:=fun h3=>h ⟨h1,h2,h3⟩; omega)]
    · rw [List.getElem?_eq_none (by omega)]
  · rw [List.getElem?_eq_none (by omega)]; rfl
end Go.PK

namespace Go.PK
open Go Go.RowKit
theorem rdO_nil:pI []=(co,11):=by decide +kernel
theorem yL (o:Ord):pI (aU o)=if bV o then (ov o,0) else (co,11):=by
  unfold aU
  by_cases h:bV o=true
  · rw [if_pos h,if_pos h,eq (gR ((bB o).1 h))]
    exact (vy ((bB o).1 h)).1
  · rw [if_neg h,if_neg h,rdO_nil]
theorem dA {n:Int} (h:0≤n) (h2:n≤999999999):(ai n).size≤9:=by
  refine (lN h 8).2 ?_
  have e:(10:Int) ^ (8+1)=1000000000:=by decide
  rw [e]; omega
theorem qN {s n:Int} (h1:0≤s) (h2:s≤999999999) (h3:0≤n) (h4:n≤999999999):(dD s n).size≤19:=by
  have e:(dD s n).size=(ai s).size+1+(ai n).size:=by unfold dD; rw [ByteArray.size_append,ByteArray.size_append]; rfl
  have:=dA h1 h2; have:=dA h3 h4; omega
theorem yM (o:Ord):∀ x∈aU o,∀ y∈x.els,∀ s∈y,s.size≤2000000000:=by
  unfold aU
  by_cases h:bV o=true
  · rw [if_pos h]
    have hw:=(bB o).1 h
    rw [eq (gR hw)]
    obtain ⟨⟨a1,a2⟩,⟨b1,b2⟩,⟨c1,c2⟩,⟨d1,d2⟩,⟨e1,e2⟩,⟨f1,f2⟩⟩:=hw
    have k1:=dA (show 0≤o.id by omega) a2
    have k2:=dA (show 0≤o.fund by omega) b2
    have k3:=dA (show 0≤o.copies by omega) (show o.copies≤999999999 by omega)
    have k4:=dA e1 e2
    have k5:=qN c1 c2 d1 d2
    have k6:=dA (show (0:Int)≤1 by omega) (by omega)
    unfold bT
    simp only [List.forall_mem_cons,List.not_mem_nil,false_imp_iff,implies_true,and_true]
    repeat' apply And.intro
    all_goals first | decide | omega
  · rw [if_neg h]; intro x hx; cases hx
end Go.PK

namespace Go.PK
open Go Go.RowKit
section
variable {P:Program} {n:Nat} {l:List (Nat×Value)} {own:List (Nat×Obj)} {ro:List av} {ty t t':TypeId} {x y:Operand} {xs ys:Array Value} {b:Bool}
theorem ui (hm:P.eqGuardType P.depth t=false) (hx:ev l x=some (.agg xs)) (hy:ev l y=some (.agg ys)) (he:∀ w,(Op.equalIn 10000 t (.agg xs) (.agg ys)).run P w=.ok b w):cx P n l own ro (.binOp .neq t x y t') ty (.bool (!b)):=by
  intro A w o ha _ ho _
  simp [execOp,ho,ha.eval hx,ha.eval hy,run_eqGuard_agg w .neq t x y xs ys hm,run_neq_struct,he]
end
end Go.PK

namespace Go.PK
open Go Go.RowKit
def ei (k:Nat) (o:Ord):List Seg :=
  [⟨⟨#[76,73,78]⟩,[[ai ((k+1:Nat):Int)],[⟨#[]⟩],[dD o.src o.num,⟨#[83,82,86]⟩]]⟩,
   ⟨⟨#[82,70,70]⟩,[[⟨#[79,78]⟩,ai o.id]]⟩,
   ⟨⟨#[81,84,89]⟩,[[⟨#[52,55]⟩,ai o.copies]]⟩,
   ⟨⟨#[80,82,73]⟩,[[⟨#[65,65,65]⟩,ai o.price]]⟩]
def cc:Nat→List Ord→List Seg
  | _,[]=>[]
  | k,o::t=>ei k o++cc (k+1) t
def dF:List Seg :=
  [⟨⟨#[85,78,72]⟩,[[⟨#[49]⟩],[⟨#[73,78,86,79,73,67]⟩,⟨#[68]⟩,⟨#[57,54,65]⟩,⟨#[85,78]⟩]]⟩,⟨⟨#[66,71,77]⟩,[[⟨#[51,56,48]⟩]]⟩]
def fa (n:Nat) (t:ByteArray):List Seg :=
  [⟨⟨#[85,78,83]⟩,[[⟨#[83]⟩]]⟩,⟨⟨#[77,79,65]⟩,[[⟨#[56,54]⟩,t]]⟩,⟨⟨#[85,78,84]⟩,[[ai ((4*n+5:Nat):Int)],[⟨#[49]⟩]]⟩]
def bo (ls:List Ord) (t:ByteArray):List Seg:=(dF++cc 0 ls)++fa ls.length t
def pf (o:Ord):Ord:={ o with fund:=1 }
def dB (ls:List Ord):Prop:=1≤ls.length∧ls.length≤999∧∀ o∈ls,ej (pf o)
instance (ls:List Ord):Decidable (dB ls):=by unfold dB; infer_instance
def ba (ls:List Ord):Int:=(ls.map fun o=>o.copies*o.price).sum
def bH (ls:List Ord):List Seg:=if dB ls then bo ls (ai (ba ls)) else []
def gU (o:Ord):Ord:=mkO o.id 0 (o.src,o.num) o.copies o.price
theorem fB:∀ (ls:List Ord) (j:Nat),(cc j ls).length=4*ls.length
  | [],_=>rfl
  | o::t,j=>by
    show (ei j o++cc (j+1) t).length=_
    rw [List.length_append,fB t (j+1),List.length_cons]
    show 4+4*t.length=_
    omega
theorem zG:∀ (ls:List Ord) (o:Ord) (j:Nat),cc j (ls++[o])=cc j ls++ei (j+ls.length) o
  | [],o,j=>by show ei j o++[]=[]++ei (j+0) o; rw [List.append_nil]; rfl
  | p::t,o,j=>by
    show ei j p++cc (j+1) (t++[o])=(ei j p++cc (j+1) t)++_
    rw [zG t o (j+1),List.append_assoc,List.length_cons,show j+1+t.length=j+(t.length+1) by omega]
theorem oy:∀ (ls:List Ord) (j k i:Nat) (hk:k < ls.length),i < 4→(cc j ls)[4*k+i]?=(ei (j+k) ls[k])[i]?
  | [],_,_,_,hk,_=>absurd hk (Nat.not_lt_zero _)
  | o::t,j,0,i,_,hi=>by
    show (ei j o++cc (j+1) t)[4*0+i]?=_
    rw [List.getElem?_append_left (by show _ < 4; omega),show 4*0+i=i by omega]; rfl
  | o::t,j,k+1,i,hk,hi=>by
    show (ei j o++cc (j+1) t)[4*(k+1)+i]?=_
    rw [List.getElem?_append_right (by show 4≤_; omega),show 4*(k+1)+i - (ei j o).length=4*k+i by show _ - 4=_; omega,oy t (j+1) k i (by simpa using hk) hi,show j+1+k=j+(k+1) by omega]; rfl
theorem m7:∀ (ls:List Ord) (j:Nat),cc j (ls.map gU)=cc j ls
  | [],_=>rfl
  | o::t,j=>by
    show ei j (gU o)++cc (j+1) (t.map gU)=ei j o++cc (j+1) t
    rw [m7 t (j+1)]; rfl
theorem kV (ls:List Ord) (t:ByteArray):bo (ls.map gU) t=bo ls t:=by
  unfold bo; rw [m7,List.length_map]
theorem cP (ls:List Ord) (t:ByteArray):(bo ls t).length=4*ls.length+5:=by
  unfold bo; rw [List.length_append,List.length_append,fB]; show 2+_+3=_; omega
theorem kj (ls:List Ord) (t:ByteArray) {k i:Nat} (hk:k < ls.length) (hi:i < 4):(bo ls t)[4*k+(i+2)]?=(ei k ls[k])[i]?:=by
  unfold bo
  rw [List.getElem?_append_left (by rw [List.length_append,fB]; show _ < 2+_; omega),List.getElem?_append_right (by show 2≤_; omega),show 4*k+(i+2) - dF.length=4*k+i by show _ - 2=_; omega,oy ls 0 k i hk hi,Nat.zero_add]
theorem km (ls:List Ord) (t:ByteArray):(bo ls t)[(bo ls t).length - 2]?=some ⟨⟨#[77,79,65]⟩,[[⟨#[56,54]⟩,t]]⟩:=by
  rw [cP]
  unfold bo
  rw [List.getElem?_append_right (by rw [List.length_append,fB]; show 2+_≤_; omega),show 4*ls.length+5 - 2 - (dF++cc 0 ls).length=1 by rw [List.length_append,fB]; show _ - (2+_)=_; omega]
  rfl
theorem yN {ls:List Ord} {t u:ByteArray} (h:bo ls t=bo ls u):t=u:=by
  have h1:=km ls t
  rw [h,km] at h1
  simpa using h1.symm
theorem oz {l:List Seg} {n:Nat} {x:Seg} (h:l[n]?=some x) (e c:Nat):ud l n e c=(x.els[e]?).bind fun y=>y[c]?:=by unfold ud; rw [h]; rfl
def ga (l:List Seg) (k:Nat):Ord:=mkO (cA (kJ l (4*k+3) 0 1)) 0 (ue (kJ l (4*k+2) 2 0)) (cA (kJ l (4*k+4) 0 1)) (cA (kJ l (4*k+5) 0 1))
def bh (l:List Seg):List Ord:=(List.range (min 1000 ((l.length - 3) / 4))).map (ga l)
def dR (l:List Seg):ByteArray:=kJ l (l.length - 2) 0 1
def iT (l:List Seg):List Ord×Int :=
  if dB (bh l)∧(bH (bh l)).length=l.length then
    if bH (bh l)=l then (bh l,0)
    else if 0≤cA (dR l)∧ai (cA (dR l))=dR l∧bo (bh l) (dR l)=l then ([],60) else ([],11)
  else ([],11)
def kK (l:List Seg) (k:Nat):Ord:=mkO (kf l (4*k+3) 0 1).1 0 (ep l (4*k+2)).1 (kf l (4*k+4) 0 1).1 (kf l (4*k+5) 0 1).1
def oC (l:List Seg) (k:Nat):Prop:=(ep l (4*k+2)).2=true∧(kf l (4*k+3) 0 1).2=true∧(kf l (4*k+4) 0 1).2=true∧(kf l (4*k+5) 0 1).2=true
def nj (l:List Seg):Nat:=(l.length - 5) / 4
def fC (l:List Seg):List Ord:=(List.range (nj l)).map (kK l)
def vC (l:List Seg):Prop:=9≤l.length∧l.length%4=1∧l.length≤4001
def moaR (l:List Seg):Prop:=∃ x,l[l.length - 2]?=some x∧x.els.length=1∧∃ y,x.els[0]?=some y∧y.length=2
def okR (l:List Seg):Prop:=vC l∧(∀ k,k < nj l→oC l k)∧dB (fC l)∧moaR l∧(dV (dR l) 18).2=true∧bo (fC l) (dR l)=l
open Classical in
noncomputable def va (l:List Seg):List Ord×Int:=if okR l then (if (dV (dR l) 18).1=ba (fC l) then (fC l,0) else ([],60)) else ([],11)
theorem oD {ls:List Ord} (h:dB ls):dB (ls.map gU):=by
  obtain ⟨h1,h2,h3⟩:=h
  refine ⟨by rw [List.length_map]; exact h1,by rw [List.length_map]; exact h2,fun o ho=>?_⟩
  obtain ⟨p,hp,rfl⟩:=List.mem_map.1 ho
  exact h3 p hp
theorem oG (ls:List Ord):ba (ls.map gU)=ba ls:=by
  unfold ba; rw [List.map_map]; rfl
theorem si {ls:List Ord} {t:ByteArray} (h:∀ o∈ls,ej (pf o)) {k:Nat} (hk:k < ls.length):ga (bo ls t) k=gU ls[k]∧kK (bo ls t) k=gU ls[k]∧oC (bo ls t) k:=by
  obtain ⟨⟨a1,a2⟩,_,⟨c1,c2⟩,⟨d1,d2⟩,⟨e1,e2⟩,⟨f1,f2⟩⟩:=h ls[k] (List.getElem_mem hk)
  have g0:=kj ls t hk (i:=0) (by omega)
  have g1:=kj ls t hk (i:=1) (by omega)
  have g2:=kj ls t hk (i:=2) (by omega)
  have g3:=kj ls t hk (i:=3) (by omega)
  generalize ls[k]=o at a1 a2 c1 c2 d1 d2 e1 e2 f1 f2 g0 g1 g2 g3 ⊢
  have a1:1≤o.id:=a1
  have a2:o.id≤999999999:=a2
  have c1:0≤o.src:=c1
  have c2:o.src≤999999999:=c2
  have d1:0≤o.num:=d1
  have d2:o.num≤999999999:=d2
  have e1:0≤o.price:=e1
  have e2:o.price≤999999999:=e2
  have f1:1≤o.copies:=f1
  have f2:o.copies≤9999:=f2
  generalize bo ls t=l at g0 g1 g2 g3 ⊢
  have t0:ud l (4*k+2) 2 0=some (dD o.src o.num):=(oz g0 2 0).trans rfl
  have t1:ud l (4*k+3) 0 1=some (ai o.id):=(oz g1 0 1).trans rfl
  have t2:ud l (4*k+4) 0 1=some (ai o.copies):=(oz g2 0 1).trans rfl
  have t3:ud l (4*k+5) 0 1=some (ai o.price):=(oz g3 0 1).trans rfl
  have hr:ep l (4*k+2)=jX (dD o.src o.num):=by unfold ep; rw [g0]; rfl
  have hr2:jX (dD o.src o.num)=((o.src,o.num),true):=by
    unfold jX; rw [sa c1 d1]; simp only [if_true,ou c1 c2,ou d1 d2]; rfl
  unfold ga kK oC kf kJ
  rw [hr,hr2,t0,t1,t2,t3]
  simp only [Option.getD_some,ou (show 0≤o.id by omega) a2,ou (show 0≤o.copies by omega) (show o.copies≤999999999 by omega),ou e1 e2,jY (show 0≤o.id by omega) a2,jY (show 0≤o.copies by omega) (show o.copies≤999999999 by omega),jY e1 e2]
  refine ⟨?_,rfl,trivial,trivial,trivial,trivial⟩
  unfold ue; rw [sa c1 d1]; simp only [jY c1 c2,jY d1 d2]; rfl
theorem qO {α:Type} {ls:List Ord} {n:Nat} {f:Nat→α} {g:Ord→α} (hn:n=ls.length) (h:∀ k (hk:k < ls.length),f k=g ls[k]):(List.range n).map f=ls.map g:=by
  subst hn
  refine List.ext_getElem (by simp) fun i h1 h2=>?_
  simp only [List.getElem_map,List.getElem_range]
  exact h i (by simpa using h1)
theorem uj {ls:List Ord} {t:ByteArray} (h:dB ls):bh (bo ls t)=ls.map gU∧fC (bo ls t)=ls.map gU∧nj (bo ls t)=ls.length:=by
  obtain ⟨h1,h2,h3⟩:=h
  have e:nj (bo ls t)=ls.length:=by unfold nj; rw [cP]; omega
  refine ⟨qO (by rw [cP]; omega) fun k hk=>(si h3 hk).1,qO e fun k hk=>(si h3 hk).2.1,e⟩
theorem oH (ls:List Ord) (t:ByteArray):dR (bo ls t)=t:=by
  unfold dR kJ
  rw [oz (km ls t)]; rfl
theorem fe:∀ {ls:List Ord},(∀ o∈ls,ej (pf o))→0≤ba ls∧ba ls≤10000000000000*(ls.length:Int)
  | [],_=>⟨Int.le_refl _,by show (0:Int)≤_; simp⟩
  | o::t,h=>by
    obtain ⟨h1,h2⟩:=fe (ls:=t) fun p hp=>h p (List.mem_cons_of_mem _ hp)
    obtain ⟨_,_,_,_,⟨e1,e2⟩,⟨f1,f2⟩⟩:=h o (List.mem_cons_self ..)
    have e1:0≤o.price:=e1
    have e2:o.price≤999999999:=e2
    have f1:1≤o.copies:=f1
    have f2:o.copies≤9999:=f2
    have e:ba (o::t)=o.copies*o.price+ba t:=by unfold ba; rw [List.map_cons,List.sum_cons]
    have g1:0≤o.copies*o.price:=Int.mul_nonneg (by omega) e1
    have g2:o.copies*o.price≤9999*999999999:=Int.mul_le_mul f2 e2 e1 (by decide)
    rw [e,List.length_cons]
    constructor <;> omega
theorem mB (t:ByteArray):(dV t 18).2=true↔0≤cA t∧ai (cA t)=t:=by
  constructor
  · intro h
    obtain ⟨_,_,h3,h4⟩:=xg h
    rw [m5 h4 h3]
    exact ⟨by omega,oq h4⟩
  · intro ⟨h1,h2⟩
    have h3:=vw h1
    have h4:=jr h1
    rw [h2] at h4
    unfold dV
    rw [if_pos ⟨h4,h3⟩]
theorem sj {ls:List Ord} {t:ByteArray} (h:dB ls):ai (ba ls)=t↔(dV t 18).2=true∧(dV t 18).1=ba ls:=by
  obtain ⟨h1,h2,h3⟩:=h
  obtain ⟨h4,h5⟩:=fe h3
  have hb:ba ls < 1000000000000000000:=by omega
  constructor
  · rintro rfl
    have:=qH h4 17 (by have e:(10:Int) ^ (17+1)=1000000000000000000:=(by decide); rw [e]; exact hb)
    rw [this]; exact ⟨rfl,rfl⟩
  · intro ⟨h6,h7⟩
    rw [← h7]; exact (xg h6).1
theorem uk {ls:List Ord} (h:dB ls) (t:ByteArray):iT (bo ls t)=if (dV t 18).2=true then (if (dV t 18).1=ba ls then (ls.map gU,0) else ([],60)) else ([],11):=by
  unfold iT
  obtain ⟨h1,h2,h3⟩:=uj (t:=t) h
  rw [h1,oH]
  have hx:bH (ls.map gU)=bo ls (ai (ba ls)):=by unfold bH; rw [if_pos (oD h),kV,oG]
  rw [hx,cP,cP,kV,if_pos ⟨oD h,rfl⟩]
  have e1:(bo ls (ai (ba ls))=bo ls t)↔ai (ba ls)=t:=⟨fun q=>yN q,fun q=>by rw [q]⟩
  by_cases hc:(dV t 18).2=true
  · rw [if_pos hc]
    by_cases hv:(dV t 18).1=ba ls
    · rw [if_pos hv,if_pos (e1.2 ((sj h).2 ⟨hc,hv⟩))]
    · rw [if_neg hv,if_neg (fun q=>hv ((sj h).1 (e1.1 q)).2),if_pos ⟨((mB t).1 hc).1,((mB t).1 hc).2,rfl⟩]
  · rw [if_neg hc,if_neg (fun q=>hc ((sj h).1 (e1.1 q)).1),if_neg (fun q=>hc ((mB t).2 ⟨q.1,q.2.1⟩))]
theorem rrI_with {ls:List Ord} (h:dB ls) (t:ByteArray):va (bo ls t)=if (dV t 18).2=true then (if (dV t 18).1=ba ls then (ls.map gU,0) else ([],60)) else ([],11):=by
  unfold va
  obtain ⟨h1,h2,h3⟩:=uj (t:=t) h
  obtain ⟨p1,p2,p3⟩:=id h
  rw [h2,oH,oG]
  by_cases hc:(dV t 18).2=true
  · rw [if_pos hc,if_pos]
    refine ⟨⟨by rw [cP]; omega,by rw [cP]; omega,by rw [cP]; omega⟩,fun k hk=>(si p3 (by rwa [h3] at hk)).2.2,by rw [h2]; exact oD h,⟨_,km ls t,rfl,_,rfl,rfl⟩,by rw [oH]; exact hc,by rw [h2,oH,kV]⟩
  · rw [if_neg hc,if_neg]
    intro ⟨_,_,_,_,q,_⟩
    rw [oH] at q; exact hc q
theorem oJ (l:List Seg):iT l=va l:=by
  by_cases hl:∃ ls t,dB ls∧bo ls t=l
  · obtain ⟨ls,t,h,rfl⟩:=hl
    rw [uk h,rrI_with h]
  · have e1:va l=([],11):=by
      unfold va; rw [if_neg]
      intro ⟨_,_,q,_,_,r⟩
      exact hl ⟨_,_,q,r⟩
    have e2:iT l=([],11):=by
      unfold iT
      by_cases h1:dB (bh l)∧(bH (bh l)).length=l.length
      · rw [if_pos h1,if_neg,if_neg]
        · intro q; exact hl ⟨_,_,h1.1,q.2.2⟩
        · intro q
          have:bH (bh l)=bo (bh l) (ai (ba (bh l))):=by unfold bH; rw [if_pos h1.1]
          exact hl ⟨_,_,h1.1,this.symm.trans q⟩
      · rw [if_neg h1]
    rw [e1,e2]
theorem m8:¬dB []:=fun h=>absurd h.1 (by decide)
theorem rdI_nil:iT []=([],11):=by
  unfold iT
  rw [if_neg]
  intro h
  exact m8 h.1
theorem xj (ls:List Ord):iT (bH ls)=if dB ls then (ls.map gU,0) else ([],11):=by
  unfold bH
  by_cases h:dB ls
  · rw [if_pos h,if_pos h,uk h]
    obtain ⟨h1,h2⟩:=(sj h).1 rfl
    rw [if_pos h1,if_pos h2]
  · rw [if_neg h,if_neg h,rdI_nil]
theorem fP (ls:List Ord):(bH ls).length=if dB ls then 4*ls.length+5 else 0:=by
  unfold bH
  by_cases h:dB ls
  · rw [if_pos h,if_pos h,cP]
  · rw [if_neg h,if_neg h]; rfl
end Go.PK

namespace Go.PK
open Go Go.RowKit
theorem qP {α:Type} {T:Ty α} {D:Nat→Prop} {ws:World} {r':ak} {xs ys:List α} {css css':List (List Value)} {n m:Nat} (hn:xs.length=n) (h1:css.length=n) (h3:∀ j (h1:j < css.length) (h2:j < xs.length),T.rd D ws css[j] xs[j])
    (hr:ag T.size r' (n+m) (css.flatten++css'.flatten)) (hm:m=ys.length) (hx:RdAll T D ws css' ys):cZ T D ws r' (xs++ys):=by
  subst hn hm
  refine ⟨css++css',by simp [h1,hx.len.1],by rw [List.length_append,List.flatten_append]; exact hr,fun j a b=>?_⟩
  by_cases hj:j < css.length
  · rw [List.getElem_append_left hj,List.getElem_append_left (by omega)]; exact h3 j hj (by omega)
  · have:=hx.at (j - css.length) (by simp at a; omega) (by simp at b; omega)
    rw [List.getElem_append_right (by omega),List.getElem_append_right (by omega)]
    simpa [h1] using this
theorem j0:∀ (l:List Ord) (o:Ord),ba (l++[o])=ba l+o.copies*o.price
  | [],o=>by unfold ba; simp
  | p::t,o=>by
    have ih:=j0 t o
    unfold ba at ih ⊢
    rw [List.cons_append,List.map_cons,List.sum_cons,ih,List.map_cons,List.sum_cons,Int.add_assoc]
theorem vD {ls:List Ord} (h:∀ o∈ls,ej (pf o)) (k:Nat):0≤ba (ls.take k)∧ba (ls.take k)≤10000000000000*((min k ls.length:Nat):Int):=by
  have:=fe (ls:=ls.take k) fun o ho=>h o (List.mem_of_mem_take ho)
  rwa [List.length_take] at this
theorem j1 {o:Ord} (h:ej (pf o)):0≤o.copies*o.price∧o.copies*o.price≤9998999990001∧(0≤o.id∧o.id≤999999999)∧(0≤o.src∧o.src≤999999999)∧(0≤o.num∧o.num≤999999999)∧(0≤o.copies∧o.copies≤9999)∧0≤o.price∧o.price≤999999999:=by
  obtain ⟨⟨a1,a2⟩,_,⟨c1,c2⟩,⟨d1,d2⟩,⟨e1,e2⟩,⟨f1,f2⟩⟩:=h
  have a1:1≤o.id:=a1
  have a2:o.id≤999999999:=a2
  have c1:0≤o.src:=c1
  have c2:o.src≤999999999:=c2
  have d1:0≤o.num:=d1
  have d2:o.num≤999999999:=d2
  have e1:0≤o.price:=e1
  have e2:o.price≤999999999:=e2
  have f1:1≤o.copies:=f1
  have f2:o.copies≤9999:=f2
  have g1:0≤o.copies*o.price:=Int.mul_nonneg (by omega) e1
  have g2:o.copies*o.price≤9999*999999999:=Int.mul_le_mul f2 e2 e1 (by decide)
  omega
theorem pf_ok {o:Ord} (h:o.okA):(pf o).ok:=by
  obtain ⟨⟨h1,_,h3,h4,h5,h6⟩,_⟩:=h
  exact ⟨h1,by show aj 1; unfold aj; decide,h3,h4,h5,h6⟩
theorem gv {α:Type} {ls:List α} {k:Nat} (hk:k < ls.length):ls.take (k+1)=ls.take k++[ls[k]]:=List.take_succ_eq_append_getElem hk
theorem m9 {ls:List Ord} {k:Nat} (hk:k < ls.length) (h:∀ o∈ls.take k,ej (pf o)) (h2:ej (pf ls[k])):∀ o∈ls.take (k+1),ej (pf o):=fun o ho=>by
  rw [gv hk] at ho
  rcases List.mem_append.1 ho with h3 | h3
  · exact h o h3
  · rw [List.mem_singleton.1 h3]; exact h2
theorem na {ls:List Ord} {k:Nat} (hk:k < ls.length):dF++cc 0 (ls.take (k+1))=(dF++cc 0 (ls.take k))++ei k ls[k]:=by
  rw [gv hk,zG,List.length_take,List.append_assoc,show 0+min k ls.length=k by omega]
theorem hl_len {ls:List Ord} {k:Nat} (hk:k≤ls.length):(dF++cc 0 (ls.take k)).length=2+4*k:=by
  rw [List.length_append,fB,List.length_take,Nat.min_eq_left hk]; rfl
end Go.PK

namespace Go.PK
open Go Go.RowKit
theorem cZ.any {α:Type} {T:Ty α} {D':Nat→Prop} {w wx:World} {own:List (Nat×Obj)} {ro:List av} {e:TypeId} {r:ak} {xs:List α} {v:Nat} (h:cZ T (fun _=>False) wx r xs) (hm:Mem w own ro) (hin:∀ p∈aA e r,p∈own) (hD:∀ p∈aA e r,D' p.1) (hv:v=xs.length):ab T D' w (au r v) xs :=
  cZ.rd (D:=fun _=>False) (w:=w) (h.keep (fun k hk _=>hk.elim)) hm hin (fun _ hx=>hx.elim) hD hv
theorem aV.made0 {w wa wb w0:World} {own own1:List (Nat×Obj)} {ro ro1:List av} (h:Mem w0 own ro) (hm:Mem wa own1 ro1) (hs:(wb,a7 own1)∈ro) (hw:(w,fun _=>True)∈ro1):aV (fun b=>wa.heap.size≤b) (fun b=>w.heap.size≤b) wb w0:=fun k hk hlt=>by
  obtain ⟨h1,h2⟩:=aV.made (w:=w) h hs hm (hm.base hw).size k hk hlt
  exact ⟨h1.1,h2⟩
theorem oK {l:List Seg} (h:¬okR l):va l=([],11):=by unfold va; rw [if_neg h]
theorem segD_at {l:List Seg} {n:Nat} (h:n < l.length):l[n]?=some (bw l n):=by unfold bw; rw [dT h,List.getElem?_eq_getElem h]
theorem xl {x:List (List ByteArray)} {n:Nat} (h:n < x.length):x[n]?=some (dI x n):=by unfold dI; rw [dT h,List.getElem?_eq_getElem h]
theorem xm {l:List Seg} (h:l.length - 2 < l.length):moaR l↔(bw l (l.length - 2)).els.length=1∧(dI (bw l (l.length - 2)).els 0).length=2:=by
  unfold moaR
  rw [segD_at h]
  constructor
  · rintro ⟨x,hx,h1,y,hy,h2⟩
    obtain rfl:=Option.some.inj hx
    rw [xl (by omega)] at hy
    obtain rfl:=Option.some.inj hy
    exact ⟨h1,h2⟩
  · intro ⟨h1,h2⟩
    exact ⟨_,rfl,h1,_,xl (by omega),h2⟩
theorem totE_in {l:List Seg} (h1:l.length - 2 < l.length) (h2:0 < (bw l (l.length - 2)).els.length) (h3:1 < (dI (bw l (l.length - 2)).els 0).length):dR l=(dI (bw l (l.length - 2)).els 0)[1]:=by
  unfold dR kJ; rw [se h1 h2 h3]; rfl
theorem kW {α:Type} (f:Nat→α) (k:Nat):(List.range (k+1)).map f=(List.range k).map f++[f k]:=by rw [List.range_succ,List.map_append]; rfl
end Go.PK

namespace Go.PK
open Go Go.RowKit
def vF (L:List ByteArray) (T:List (List ByteArray)):Prop:=L.map aN=T∧∀ s∈L,s.size≤100
theorem es_unh:vF [⟨#[49]⟩,⟨#[73,78,86,79,73,67,58,68,58,57,54,65,58,85,78]⟩] [[⟨#[49]⟩],[⟨#[73,78,86,79,73,67]⟩,⟨#[68]⟩,⟨#[57,54,65]⟩,⟨#[85,78]⟩]] :=
  ⟨by decide +kernel,by decide⟩
theorem es_bgm:vF [⟨#[51,56,48]⟩] [[⟨#[51,56,48]⟩]]:=⟨by decide +kernel,by decide⟩
theorem es_uns:vF [⟨#[83]⟩] [[⟨#[83]⟩]]:=⟨by decide +kernel,by decide⟩
theorem yQ:aN ⟨#[]⟩=[⟨#[]⟩]:=by decide +kernel
theorem split_1:aN ⟨#[49]⟩=[⟨#[49]⟩]:=by decide +kernel
theorem jt {L:List ByteArray} {s:ByteArray} (h:s.size≤100) (t:∀ x∈L,x.size≤100):∀ x∈s::L,x.size≤100:=fun x hx=>by
  rcases List.mem_cons.1 hx with rfl | hx
  · exact h
  · exact t x hx
theorem sl:∀ x∈([]:List ByteArray),x.size≤100:=fun x hx=>by cases hx
theorem es_lin {n:Int} {o:Ord} (hn:0≤n) (hi:aj n) (h1:0≤o.src) (h2:0≤o.num) (i1:aj o.src) (i2:aj o.num):vF [ai n,⟨#[]⟩,kB o.src o.num] [[ai n],[⟨#[]⟩],[dD o.src o.num,⟨#[83,82,86]⟩]] :=
  ⟨by rw [List.map_cons,List.map_cons,List.map_cons,List.map_nil,kR (il hn c58),yQ,qK h1 h2],jt (Nat.le_trans (br hi) (by decide)) (jt (by decide) (jt (Nat.le_trans (qD i1 i2) (by decide)) sl))⟩
theorem es_p3 {a b:UInt8} {n:Int} (h:0≤n) (hi:aj n) (ha:a≠58) (hb:b≠58):vF [(⟨#[a,b,58]⟩:ByteArray)++ai n] [[⟨#[a,b]⟩,ai n]] :=
  ⟨by rw [List.map_cons,List.map_nil,pre3 h ha hb],jt (by rw [ByteArray.size_append]; have:=br hi; show 3+_≤_; omega) sl⟩
theorem es_p4 {a b d:UInt8} {n:Int} (h:0≤n) (hi:aj n) (ha:a≠58) (hb:b≠58) (hd:d≠58):vF [(⟨#[a,b,d,58]⟩:ByteArray)++ai n] [[⟨#[a,b,d]⟩,ai n]] :=
  ⟨by rw [List.map_cons,List.map_nil,pre4 h ha hb hd],jt (by rw [ByteArray.size_append]; have:=br hi; show 4+_≤_; omega) sl⟩
theorem es_unt {n:Int} (h:0≤n) (hi:aj n):vF [ai n,⟨#[49]⟩] [[ai n],[⟨#[49]⟩]] :=
  ⟨by rw [List.map_cons,List.map_cons,List.map_nil,kR (il h c58),split_1],jt (Nat.le_trans (br hi) (by decide)) (jt (by decide) sl)⟩
end Go.PK

namespace Go.PK
open Go Go.RowKit
theorem mC {n:Int} (h:aj n):(ai n).size≤2000000000:=Nat.le_trans (br h) (by decide)
theorem vG {n:Int} (h:0≤n) (h2:n≤999999999):aj n:=by unfold aj; omega
theorem inv4_big {k:Nat} {o:Ord} (hk:k≤1000000) (h:ej (pf o)):∀ x∈ei k o,∀ y∈x.els,∀ s∈y,s.size≤2000000000:=by
  obtain ⟨_,_,⟨r1,r2⟩,⟨r3,r4⟩,⟨r5,r6⟩,⟨r7,r8⟩,r9,r10⟩:=j1 h
  have k1:=mC (vG r1 r2)
  have k2:=mC (n:=((k+1:Nat):Int)) (by unfold aj; omega)
  have k3:=mC (vG r7 (show o.copies≤999999999 by omega))
  have k4:=mC (vG r9 r10)
  have k5:=qN r3 r4 r5 r6
  unfold ei
  simp only [List.forall_mem_cons,List.not_mem_nil,false_imp_iff,implies_true,and_true]
  repeat' apply And.intro
  all_goals first | decide | omega
theorem oM:∀ (ls:List Ord) (j:Nat),(∀ o∈ls,ej (pf o))→j+ls.length≤1000000→∀ x∈cc j ls,∀ y∈x.els,∀ s∈y,s.size≤2000000000
  | [],_,_,_=>fun x hx=>by cases hx
  | o::t,j,h,hj=>fun x hx=>by
    have hx:x∈ei j o++cc (j+1) t:=hx
    rw [List.length_cons] at hj
    rcases List.mem_append.1 hx with h1 | h1
    · exact inv4_big (by omega) (h o (List.mem_cons_self ..)) x h1
    · exact oM t (j+1) (fun p hp=>h p (List.mem_cons_of_mem _ hp)) (by omega) x h1
theorem yR {ls:List Ord} {t:ByteArray} (h:∀ o∈ls,ej (pf o)) (hn:ls.length≤1000) (ht:t.size≤2000000000):∀ x∈bo ls t,∀ y∈x.els,∀ s∈y,s.size≤2000000000:=fun x hx=>by
  unfold bo at hx
  rcases List.mem_append.1 hx with h1 | h1
  · rcases List.mem_append.1 h1 with h2 | h2
    · have hh:∀ x∈dF,∀ y∈x.els,∀ s∈y,s.size≤2000000000:=by
        unfold dF
        simp only [List.forall_mem_cons,List.not_mem_nil,false_imp_iff,implies_true,and_true]
        decide
      exact hh x h2
    · exact oM ls 0 h (by omega) x h2
  · have k1:=mC (n:=((4*ls.length+5:Nat):Int)) (by unfold aj; omega)
    have hh:∀ x∈fa ls.length t,∀ y∈x.els,∀ s∈y,s.size≤2000000000:=by
      unfold fa
      simp only [List.forall_mem_cons,List.not_mem_nil,false_imp_iff,implies_true,and_true]
      repeat' apply And.intro
      all_goals first | decide | omega
    exact hh x h1
theorem ul (ls:List Ord):∀ x∈bH ls,∀ y∈x.els,∀ s∈y,s.size≤2000000000:=by
  unfold bH
  by_cases h:dB ls
  · rw [if_pos h]
    obtain ⟨h1,h2,h3⟩:=id h
    obtain ⟨t1,t2⟩:=fe h3
    exact yR h3 (by omega) (mC (by unfold aj; omega))
  · rw [if_neg h]; intro x hx; cases hx
end Go.PK

namespace Go.PK
open Go Go.RowKit
def qT (s:ByteArray) (a:Nat) (l:List UInt8):Prop:=s.data.toList.drop a=l∧a≤s.size
theorem ba_len (s:ByteArray):s.data.toList.length=s.size:=by rw [Array.length_toList]; rfl
theorem qT.cons {s:ByteArray} {a:Nat} {x:UInt8} {l:List UInt8} (h:qT s a (x::l)):a < s.size∧ad s a=x∧qT s (a+1) l:=by
  obtain ⟨h1,h2⟩:=h
  have hl:=congrArg List.length h1
  rw [List.length_drop,ba_len,List.length_cons] at hl
  have hlt:a < s.size:=by omega
  have h3:s.data.toList[a]?=some x:=by
    have:=congrArg (fun q=>q[0]?) h1
    simpa [List.getElem?_drop] using this
  refine ⟨hlt,?_,?_,by omega⟩
  · unfold ad; rw [List.getD_eq_getElem?_getD,h3]; rfl
  · have:=congrArg (List.drop 1) h1
    rw [List.drop_drop] at this
    simpa using this
theorem qT.nil {s:ByteArray} {a:Nat} (h:qT s a []):a=s.size:=by
  obtain ⟨h1,h2⟩:=h
  have hl:=congrArg List.length h1
  rw [List.length_drop,ba_len,List.length_nil] at hl
  omega
theorem yS (t:ByteArray):(⟨t.data.toList.toArray⟩:ByteArray)=t:=by simp
end Go.PK

namespace Go.PK
open Go Go.RowKit
theorem sign_no {y:UInt8} (h:mX y≠true):y≠58∧y≠43∧y≠63∧y≠39:=by
  refine ⟨?_,?_,?_,?_⟩ <;> (rintro rfl; exact h (by decide))
theorem lP {s:ByteArray} {x:UInt8} (hx:x=58∨x=43∨x=39):∀ (t b:List UInt8) (a:Nat) (l:List UInt8),qT s a (eE t++x::l)→∃ a',cH s bO a b=some (b++t,x,a')∧qT s a' l
  | [],b,a,l,h=>by
    obtain ⟨k1,k2,k3⟩:=qT.cons (by simpa [eE] using h)
    refine ⟨a+1,?_,k3⟩
    rw [eW,if_pos k1,k2,if_pos (show x=bO.c∨x=bO.e∨x=bO.n from hx),List.append_nil]
  | y::t,b,a,l,h=>by
    by_cases hy:mX y=true
    · have h':qT s a (63::y::(eE t++x::l)):=by
        rw [iP] at h; unfold pY at h; rw [if_pos hy] at h; simpa using h
      obtain ⟨k1,k2,k3⟩:=h'.cons
      obtain ⟨k4,k5,k6⟩:=k3.cons
      obtain ⟨a',e1,e2⟩:=lP hx t (b++[y]) (a+2) l k6
      refine ⟨a',?_,e2⟩
      rw [eW,if_pos k1,k2,if_neg (show ¬((63:UInt8)=bO.c∨(63:UInt8)=bO.e∨(63:UInt8)=bO.n) by decide),if_pos (show (63:UInt8)=bO.r from rfl),if_neg (by omega),k5,e1]
      simp
    · have h':qT s a (y::(eE t++x::l)):=by
        rw [iP] at h; unfold pY at h; rw [if_neg hy] at h; simpa using h
      obtain ⟨k1,k2,k3⟩:=h'.cons
      obtain ⟨a',e1,e2⟩:=lP hx t (b++[y]) (a+1) l k3
      obtain ⟨n1,n2,n3,n4⟩:=sign_no hy
      refine ⟨a',?_,e2⟩
      rw [eW,if_pos k1,k2,if_neg (show ¬(y=bO.c∨y=bO.e∨y=bO.n) from fun q=>by rcases q with q | q | q; (· exact n1 q); (· exact n2 q); exact n4 q),if_neg (show ¬y=bO.r from n3),e1]
      simp
theorem qU {s:ByteArray} {x:UInt8} (hx:x=43∨x=39):∀ (ts:List ByteArray) (t:ByteArray) (c:UInt8) (a:Nat) (out ys:List (List ByteArray)) (y:List ByteArray) (l:List UInt8),jS bO c out=ys++[y]→c≠39 →
    qT s a (eE (bl t)++(mt 58 ts++x::l))→∃ a',ja s bO c a out=ja s bO x a' (ys++[y++t::ts])∧qT s a' l
  | [],t,c,a,out,ys,y,l,ho,hc,h=>by
    obtain ⟨a',e,h'⟩:=lP (x:=x) (.inr hx) (bl t) [] a l (by simpa [mt] using h)
    refine ⟨a',?_,h'⟩
    rw [qs,if_neg (show ¬c=bO.n from hc),e]
    dsimp only
    rw [List.nil_append,fx,ho,gj]
  | t2::ts,t,c,a,out,ys,y,l,ho,hc,h=>by
    obtain ⟨a1,e,h1⟩:=lP (x:=58) (.inl rfl) (bl t) [] a (eE (bl t2)++(mt 58 ts++x::l)) (by simpa [mt] using h)
    obtain ⟨a',e2,h2⟩:=qU hx ts t2 58 a1 (ys++[y++[t]]) ys (y++[t]) l (if_neg (by decide)) (by decide) h1
    refine ⟨a',?_,h2⟩
    rw [qs,if_neg (show ¬c=bO.n from hc),e]
    dsimp only
    rw [List.nil_append,fx,ho,gj,e2,List.append_assoc]
    rfl
theorem um (es:List (List ByteArray)) (he:∀ e∈es,e≠[]) (l:List UInt8):∃ x l',es.flatMap (mt 43)++39::l=x::l'∧(x=43∨x=39):=by
  cases es with
  | nil=>exact ⟨39,l,rfl,.inr rfl⟩
  | cons e es =>
    cases e with
    | nil=>exact absurd rfl (he [] (by simp))
    | cons t ts=>exact ⟨43,eE (bl t)++mt 58 ts++(es.flatMap (mt 43)++39::l),by simp [mt,List.flatMap_cons],.inl rfl⟩
theorem el_all {s:ByteArray} {l:List UInt8}:∀ (es:List (List ByteArray)),(∀ e∈es,e≠[])→∀ (c:UInt8) (a:Nat) (out:List (List ByteArray)) (l':List UInt8),es.flatMap (mt 43)++39::l=c::l'→qT s a l' →
    ∃ a',ja s bO c a out=some (out++es,a')∧qT s a' l
  | [],_,c,a,out,l',h,hs=>by
    have h:39::l=c::l':=h
    injection h with h1 h2
    subst h1 h2
    exact ⟨a,by rw [qs,if_pos (show (39:UInt8)=bO.n from rfl),List.append_nil],hs⟩
  | e::es,he,c,a,out,l',h,hs=>by
    cases e with
    | nil=>exact absurd rfl (he [] (by simp))
    | cons t ts =>
      have h:43::((eE (bl t)++mt 58 ts)++(es.flatMap (mt 43)++39::l))=c::l':=by rw [← h]; simp [mt,List.flatMap_cons]
      injection h with h1 h2
      subst h1
      have he':∀ e∈es,e≠[]:=fun e h=>he e (List.mem_cons_of_mem _ h)
      obtain ⟨x,l2,e2,hx⟩:=um es he' l
      rw [e2,List.append_assoc] at h2
      obtain ⟨a1,e3,h3⟩:=qU hx ts t 43 a out out [] l2 (if_pos rfl) (by decide) (by rw [h2]; exact hs)
      obtain ⟨a',e4,h4⟩:=el_all es he' x a1 (out++[[]++t::ts]) l2 e2 h3
      exact ⟨a',by rw [e3,e4,List.append_assoc]; rfl,h4⟩
theorem yT {c:UInt8} (h:eD c=true):ef c≠true:=by
  unfold eD at h
  simp only [decide_eq_true_eq] at h
  unfold ef
  simp only [ne_eq,Bool.or_eq_true,decide_eq_true_eq,not_or]
  refine ⟨⟨?_,?_⟩,?_⟩ <;> (rintro rfl; revert h; decide)
theorem oN {x:Seg} (h:cr x=true):x.tag.size=3∧(∀ c∈bl x.tag,eD c=true)∧∀ e∈x.els,e≠[]:=by
  unfold cr at h
  simp only [Bool.and_eq_true,decide_eq_true_eq,Bool.not_eq_true',List.any_eq_false] at h
  obtain ⟨⟨h1,h2⟩,h3⟩:=h
  refine ⟨h1,fun c hc=>by have:=h2 c hc; simpa using this,fun e he hn=>?_⟩
  have:=h3 e he
  rw [hn] at this
  exact this rfl
theorem par_sg {s:ByteArray} {x:Seg} (hr:cr x=true) {a:Nat} {l:List UInt8} {out:List Seg} (ho:out.length < 10000) (h:qT s a (sgT x++l)):∃ a',lG s bO a out=lG s bO a' (out++[x])∧qT s a' l:=by
  obtain ⟨h1,h2,h3⟩:=oN hr
  obtain ⟨tg,els⟩:=x
  dsimp only at h1 h2 h3
  have hl3:(bl tg).length=3:=by rw [a8,h1]
  obtain ⟨c1,c2,c3,hbt⟩:∃ c1 c2 c3,bl tg=[c1,c2,c3]:=by
    match hb:bl tg,hl3 with
    | [c1,c2,c3],_=>exact ⟨c1,c2,c3,rfl⟩
  have hc1:=h2 c1 (by rw [hbt]; simp)
  have hc2:=h2 c2 (by rw [hbt]; simp)
  have hc3:=h2 c3 (by rw [hbt]; simp)
  obtain ⟨x,l',hel,hx⟩:=um els h3 l
  have h0:qT s a (c1::c2::c3::x::l'):=by
    have e:sgT ⟨tg,els⟩++l=c1::c2::c3::(els.flatMap (mt 43)++39::l):=by unfold sgT; dsimp only; rw [hbt]; simp
    rw [e,hel] at h; exact h
  obtain ⟨k1,k2,h5⟩:=h0.cons
  obtain ⟨k3,k4,h6⟩:=h5.cons
  obtain ⟨k5,k6,h7⟩:=h6.cons
  obtain ⟨k7,k8,h8⟩:=h7.cons
  have hskip:bI s a=a:=eJ (fun hh=>by rw [k2] at hh; exact yT hc1 hh.2)
  have htag:aQ s a=tg:=by
    have hb3:aQ s a=s.extract a (a+3):=by unfold aQ; rw [show min (a+3) s.size=a+3 by omega]
    have hl:(aQ s a).data.toList=[c1,c2,c3]:=by
      rw [hb3,ByteArray.data_extract,Array.toList_extract,List.extract_eq_take_drop,h0.1]
      rw [show a+3 - a=3 by omega]
      rfl
    rw [← yS (aQ s a),hl,← hbt,fx]
  have hall:jQ (aQ s a):=by
    rw [htag]; intro j hj
    have:eD ((bl tg)[j]'(by rw [a8]; exact hj))=true:=h2 _ (List.getElem_mem _)
    rwa [iv] at this
  have hT:cX s bO a=((aQ s a,0,0),a+3):=by
    unfold cX
    rw [if_neg (fun hh=>hh hall),htag]
    rw [if_neg (show ¬(tg.size < 3∨a+tg.size=s.size) from fun hh=>by rw [h1] at hh; omega)]
    rw [if_neg (show ¬(ad s (a+tg.size)≠bO.e∧ad s (a+tg.size)≠bO.n) from fun hh=>by
      rw [h1,show a+3=a+1+1+1 by omega,k8] at hh
      rcases hx with q | q
      · exact hh.1 q
      · exact hh.2 q)]
    rw [h1]
  obtain ⟨a',e4,h9⟩:=el_all els h3 x (a+1+1+1+1) [] l' hel h8
  refine ⟨a',?_,h9⟩
  rw [jT s bO a out (by omega),hskip,if_pos k1,if_neg (by omega),hT]
  dsimp only
  rw [if_neg (show ¬(0:Int)≠0 by decide),show a+3=a+1+1+1 by omega,k8,e4,htag]
  rfl
theorem par_wr {s:ByteArray}:∀ (ls:List Seg) (a:Nat) (out:List Seg),(∀ x∈ls,cr x=true)→out.length+ls.length≤10000→qT s a (fX ls)→lG s bO a out=(out++ls,0,0)
  | [],a,out,_,ho,h=>by
    have ha:a=s.size:=qT.nil h
    subst ha
    rw [jT s bO _ out (Nat.le_refl _),eJ (by omega),if_neg (by omega),List.append_nil]
  | x::ls,a,out,hr,ho,h=>by
    simp only [List.length_cons] at ho
    obtain ⟨a',e,h'⟩:=par_sg (hr x (by simp)) (l:=fX ls) (out:=out) (by omega) (by have:=h; unfold fX at this; rw [List.flatMap_cons] at this; exact this)
    rw [e,par_wr ls a' (out++[x]) (fun y hy=>hr y (List.mem_cons_of_mem _ hy)) (by simp; omega) h']
    simp
theorem yU {ls:List Seg} (hn:ls.length≤10000) (hg:∀ k (h:k < ls.length),jA k ls[k]):aK ⟨(fX ls).toArray⟩=(ls,0,0):=by
  have hd:(⟨(fX ls).toArray⟩:ByteArray).data.toList=fX ls:=by simp
  have h0:qT (⟨(fX ls).toArray⟩:ByteArray) 0 (fX ls):=⟨by rw [List.drop_zero,hd],Nat.zero_le _⟩
  have hr:∀ x∈ls,cr x=true:=fun x hx=>by
    obtain ⟨k,hk,rfl⟩:=List.mem_iff_getElem.1 hx
    exact (hg k hk).1
  have hu:¬pT ⟨(fX ls).toArray⟩:=by
    rintro ⟨hs,he⟩
    cases ls with
    | nil=>have:(⟨(fX []).toArray⟩:ByteArray).size=0:=rfl; omega
    | cons x t =>
      obtain ⟨h1,_⟩:=oN (hr x (by simp))
      refine (hg 0 (by simp)).2 ⟨rfl,?_⟩
      have hl:(ByteArray.extract ⟨(fX (x::t)).toArray⟩ 0 3).data.toList=bl x.tag:=by
        rw [ByteArray.data_extract,Array.toList_extract,List.extract_eq_take_drop,hd]
        unfold fX sgT
        rw [List.flatMap_cons]
        simp only [List.drop_zero,List.append_assoc]
        rw [List.take_left' (by rw [a8,h1])]
      rw [he] at hl
      show x.tag=lM
      rw [← fx x.tag,← hl]
      rfl
  rw [iN]
  unfold ci
  rw [if_neg hu]
  dsimp only
  have:=par_wr ls 0 [] hr (by simpa using hn) h0
  simpa using this
end Go.PK

namespace Go.PK
open Go Go.RowKit
structure FSt where
  al:Int
  sp:Int
  en:Int
deriving DecidableEq
def FSt.free (f:FSt):Int:=f.al - f.sp - f.en
def aR (f:FSt):Prop:=0≤f.sp∧0≤f.en∧f.sp+f.en≤f.al∧f.al≤1000000000000000
def bJ (f:FSt) (n:Int):Int×FSt:=if n < 0 then (1,f) else if n > f.free then (60,f) else (0,{ f with en:=f.en+n })
def aS (f:FSt) (n:Int):Int×FSt:=if n < 0 then (1,f) else if n > f.en then (60,f) else (0,{ f with en:=f.en - n })
def bK (f:FSt) (n:Int):Int×FSt:=if n < 0 then (1,f) else if n > f.free then (60,f) else (0,{ f with sp:=f.sp+n })
theorem enc_ok {f:FSt} {n:Int} (h:aR f):aR (bJ f n).2:=by
  unfold bJ FSt.free; unfold aR at h ⊢
  split
  · exact h
  · split
    · exact h
    · dsimp only; omega
theorem mD {f:FSt} {n:Int} (h:aR f):aR (aS f n).2:=by
  unfold aS; unfold aR at h ⊢
  split
  · exact h
  · split
    · exact h
    · dsimp only; omega
theorem vH {f:FSt} {n:Int} (h:aR f):aR (bK f n).2:=by
  unfold bK FSt.free; unfold aR at h ⊢
  split
  · exact h
  · split
    · exact h
    · dsimp only; omega
def lQ (tol p q:Int):Prop:=1000*max (p - q) (q - p)≤tol*q
instance (tol p q:Int):Decidable (lQ tol p q):=by unfold lQ; infer_instance
def aL (x:Ord):Int:=(x.prom - x.paid)*x.price
def bm (x:Ord):Ord:={ x with prom:=x.copies,paid:=0,st:=0 }
def a6 (x a:Ord):Ord:={ x with prom:=a.copies,price:=a.price }
def bA (tol:Int) (ln:Ord) (x:Option (Ord×Int)):Int :=
  match x with
  | none=>32
  | some (x,_) =>
    if x.st=-1 then 50
    else if ¬(x.src=ln.src∧x.num=ln.num) then 1
    else if ln.copies > x.st - x.paid then 50
    else if ¬lQ tol ln.price x.price then 61
    else 0
end Go.PK

namespace Go.PK
open Go Go.RowKit Go.Maps
def bP (mF:Nat) (money:Int):List Value:=[.map (some mF),.int .i64 money]
def cJ (pF:Nat) (tol:Int) (mO:Nat):List Value:=[.pointer (some ⟨pF,0,none⟩),.int .i64 tol,.map (some mO)]
def bu (x:Ord) (first:Int):List Value:=x.cells++[Value.int .i64 first]
def yV (x:Ord) (first:Int):Value:=.agg (bu x first).toArray
section
variable {P:Program} {n:Nat} {l:List (Nat×Value)} {own:List (Nat×Obj)} {ro:List av} {ty:TypeId} {x y m:Operand} {t t' kt e:TypeId} {b:Nat} {es:Array MapEntry} {clock:Nat} {f:Value→Option Value}
theorem Ab {p:Option Addr} {q:TypeId} (ht:P.underlying t=some (.pointer q)) (hx:ev l x=some (.pointer p)) (hy:ev l y=some (.pointer none)):cx P n l own ro (.binOp .eql t x y t') ty (.bool p.isNone):=by
  intro A w o ha _ ho _
  have h:∀ d:Nat,(Op.equalIn (d+1) t (.pointer p) (.pointer none)).run P w=.ok p.isNone w:=fun d=>by
    cases p <;> simp [Op.equalIn,run_underlying ht]
  have h2:(Op.equal t (.pointer p) (.pointer none)).run P w=.ok p.isNone w:=h 9999
  simp [execOp,ho,ha.eval hx,ha.eval hy,eqGuard,binOp,h2]
theorem Ac {p:Option Addr} {q:TypeId} (ht:P.underlying t=some (.pointer q)) (hx:ev l x=some (.pointer p)) (hy:ev l y=some (.pointer none)):cx P n l own ro (.binOp .neq t x y t') ty (.bool (!p.isNone)):=by
  intro A w o ha _ ho _
  have h:∀ d:Nat,(Op.equalIn (d+1) t (.pointer p) (.pointer none)).run P w=.ok p.isNone w:=fun d=>by
    cases p <;> simp [Op.equalIn,run_underlying ht]
  have h2:(Op.equal t (.pointer p) (.pointer none)).run P w=.ok p.isNone w:=h 9999
  simp [execOp,ho,ha.eval hx,ha.eval hy,eqGuard,binOp,h2]
theorem v_eqm {p:Option Nat} {q r:TypeId} (ht:P.underlying t=some (.map q r)) (hx:ev l x=some (.map p)) (hy:ev l y=some (.map none)):cx P n l own ro (.binOp .eql t x y t') ty (.bool p.isNone):=by
  intro A w o ha _ ho _
  have h:∀ d:Nat,(Op.equalIn (d+1) t (.map p) (.map none)).run P w=.ok p.isNone w:=fun d=>by
    cases p <;> simp [Op.equalIn,run_underlying ht]
  have h2:(Op.equal t (.map p) (.map none)).run P w=.ok p.isNone w:=h 9999
  simp [execOp,ho,ha.eval hx,ha.eval hy,eqGuard,binOp,h2]
theorem lR {u z:Value} {lx:Lit} (ht:P.underlying t=some (.map kt e)) (KK:Keyed P kt) (hz:(P.info? e).bind (·.zero)=some z) (hm:ev l m=some (.map none)) (hx:ev l x=some u) (hkey:keyOf P kt u=some lx):cx P n l own ro (.lookup t m x false) ty z:=by
  intro A w o ha hw ho _
  have h1:(Instr.findKey kt u []).run P w=.ok none w:=by
    rcases (MapF.empty (P:=P) (kt:=kt)).find KK hkey w with ⟨h1,_⟩ | ⟨j,e,_,h2,_⟩
    · exact h1
    · simp at h2
  simp [execOp,ho,ha.eval hm,ha.eval hx,Instr.lookup,run_underlying ht,KK.check w _ hkey,cy hz,Result.andThen,h1]
def oO (own:List (Nat×Obj)) (ro:List av) (b:Nat) (es:Array MapEntry) (clock:Nat):Prop:=∀ w,Mem w own ro→w.heap[b]?=some (.map es clock)
theorem cf (h:(b,Obj.map es clock)∈own):oO own ro b es clock:=fun w hw=>hw.own_at _ h
theorem ju {ws:World} {D:Nat→Prop} (hs:(ws,D)∈ro) (hD:D b) (h:ws.heap[b]?=some (.map es clock)):oO own ro b es clock:=fun w hw=>(hw.ro_at _ hs b hD (dS h)).trans h
theorem cw {u v z:Value} {lx:Lit} (ht:P.underlying t=some (.map kt e)) (KK:Keyed P kt) (hz:(P.info? e).bind (·.zero)=some z) (hm:ev l m=some (.map (some b))) (hx:ev l x=some u) (hkey:keyOf P kt u=some lx)
    (hb:oO own ro b es clock) (hf:MapF P kt es f) (hv:(f u).getD z=v):cx P n l own ro (.lookup t m x false) ty v:=by
  intro A w o ha hw ho _
  have hg:=hb w hw
  subst hv
  rcases hf.find KK hkey w with ⟨h1,h2⟩ | ⟨j,e,h1,h2,h3,h4⟩
  · simp [execOp,ho,ha.eval hm,ha.eval hx,Instr.lookup,run_underlying ht,MapKept.run_getObj_map hg,KK.check w _ hkey,h1,cy hz,h2,Result.andThen]
  · simp [execOp,ho,ha.eval hm,ha.eval hx,Instr.lookup,run_underlying ht,MapKept.run_getObj_map hg,KK.check w _ hkey,h1,h4,Result.andThen]
theorem cI {u v z:Value} {lx:Lit} {c:Bool} (ht:P.underlying t=some (.map kt e)) (KK:Keyed P kt) (hz:(P.info? e).bind (·.zero)=some z) (hm:ev l m=some (.map (some b))) (hx:ev l x=some u) (hkey:keyOf P kt u=some lx)
    (hb:oO own ro b es clock) (hf:MapF P kt es f) (hv:(f u).getD z=v) (hc:(f u).isSome=c):cx P n l own ro (.lookup t m x true) ty (.tuple #[v,.bool c]):=by
  intro A w o ha hw ho _
  have hg:=hb w hw
  subst hv hc
  rcases hf.find KK hkey w with ⟨h1,h2⟩ | ⟨j,e,h1,h2,h3,h4⟩
  · simp [execOp,ho,ha.eval hm,ha.eval hx,Instr.lookup,run_underlying ht,MapKept.run_getObj_map hg,KK.check w _ hkey,h1,cy hz,h2,Result.andThen]
  · simp [execOp,ho,ha.eval hm,ha.eval hx,Instr.lookup,run_underlying ht,MapKept.run_getObj_map hg,KK.check w _ hkey,h1,h4,Result.andThen]
theorem qV {tm:TypeId} (ht:P.underlying tm=some (.map kt e)) (hm:ev l m=some (.map (some b))) (hb:(b,Obj.map es clock)∈own):cx P n l own ro (.call ⟨.builtin .len,#[m],#[tm]⟩) ty (.int .i64 (es.size:Nat)):=by
  intro A w o ha hw ho _
  have hg:=hw.own_at _ hb
  simp [execOp,ho,resolve,invoke,builtin,Builtin.len_,goInt,run_underlying ht,ha.eval hm,MapKept.run_getObj_map hg,Result.andThen]
theorem sq {tm:TypeId} (ht:P.underlying tm=some (.map kt e)) (hm:ev l m=some (.map none)):cx P n l own ro (.call ⟨.builtin .len,#[m],#[tm]⟩) ty (.int .i64 0):=by
  intro A w o ha hw ho _
  simp [execOp,ho,resolve,invoke,builtin,Builtin.len_,goInt,run_underlying ht,ha.eval hm,Result.andThen]
end
end Go.PK

namespace Go.PK
open Go Go.RowKit
section
variable {P:Program} {n:Nat} {l:List (Nat×Value)} {own:List (Nat×Obj)} {ro:List av} {lops:List Oper} {Q:Exit→Act→World→Prop} {K:Act→World→Prop}
  {rest:List (Option Bool×Nat)} {k:Option Bool} {i d:Nat} {op:Op} {ty:TypeId} {pos:String} {af:Array Edge} {x y z':Operand} {t:TypeId}
end
end Go.PK

namespace Go.PK
open Go Go.RowKit
end Go.PK

namespace Go.PK
open Go Go.RowKit
def kX (x:Seg):Prop:=x.els.length≤100∧∀ y∈x.els,y.length≤100
def fewS (l:List Seg):Prop:=l.length≤10000∧∀ x∈l,kX x
theorem yW (o:Ord):fewS (aU o):=by
  unfold aU
  by_cases h:bV o=true
  · rw [if_pos h,eq (gR ((bB o).1 h))]
    unfold bT fewS kX
    simp only [List.forall_mem_cons,List.not_mem_nil,false_imp_iff,implies_true,and_true,List.length_cons,List.length_nil]
    decide
  · rw [if_neg h]; exact ⟨Nat.zero_le _,fun x hx=>by cases hx⟩
theorem kY:∀ (ls:List Ord) (j:Nat),∀ x∈cc j ls,kX x
  | [],_=>fun x hx=>by cases hx
  | o::t,j=>fun x hx=>by
    have hx:x∈ei j o++cc (j+1) t:=hx
    rcases List.mem_append.1 hx with h1 | h1
    · have hh:∀ x∈ei j o,kX x:=by
        unfold ei kX
        simp only [List.forall_mem_cons,List.not_mem_nil,false_imp_iff,implies_true,and_true,List.length_cons,List.length_nil]
        decide
      exact hh x h1
    · exact kY t (j+1) x h1
theorem xp (ls:List Ord):fewS (bH ls):=by
  unfold bH
  by_cases h:dB ls
  · rw [if_pos h]
    obtain ⟨h1,h2,h3⟩:=id h
    refine ⟨by rw [cP]; omega,fun x hx=>?_⟩
    unfold bo at hx
    rcases List.mem_append.1 hx with hx | hx
    · rcases List.mem_append.1 hx with hx | hx
      · have hh:∀ x∈dF,kX x:=by
          unfold dF kX
          simp only [List.forall_mem_cons,List.not_mem_nil,false_imp_iff,implies_true,and_true,List.length_cons,List.length_nil]
          decide
        exact hh x hx
      · exact kY ls 0 x hx
    · have hh:∀ x∈fa ls.length (ai (ba ls)),kX x:=by
        unfold fa kX
        simp only [List.forall_mem_cons,List.not_mem_nil,false_imp_iff,implies_true,and_true,List.length_cons,List.length_nil]
        decide
      exact hh x hx
  · rw [if_neg h]; exact ⟨Nat.zero_le _,fun x hx=>by cases hx⟩
theorem nil_rd {α:Type} (T:Ty α) (D:Nat→Prop) (w:World):ab T D w (.slice none 0 0) []:=⟨none,0,rfl,Nat.le_refl _,Nat.zero_le _,fun h=>absurd h (Nat.not_lt_zero _)⟩
theorem Mem.join2 {w1 w2:World} {own1 own2:List (Nat×Obj)} {ro:List av} (h1:Mem w1 own1 ro) (h2:Mem w2 own2 [(w1,fun _=>True)]):Mem w2 (own2++own1) ro where
  own_at:=fun p hp=>by
    rcases List.mem_append.1 hp with hp | hp
    · exact h2.own_at p hp
    · exact (h2.ro_at _ (.head _) p.1 trivial (h1.lt hp)).trans (h1.own_at p hp)
  own_nd:=by
    rw [List.map_append,List.nodup_append]
    refine ⟨h2.own_nd,h1.own_nd,fun a ha b hb e=>?_⟩
    obtain ⟨p,hp,rfl⟩:=List.mem_map.1 ha
    obtain ⟨q,hq,rfl⟩:=List.mem_map.1 hb
    have a1:=h2.apart p hp _ (.head _) trivial
    have a2:=h1.lt hq
    simp only at a1; omega
  ro_st:=(h1.join h2).ro_st
  ro_at:=(h1.join h2).ro_at
  apart:=fun p hp s hs hd=>by
    rcases List.mem_append.1 hp with hp | hp
    · exact (h1.join h2).apart p hp s hs hd
    · exact h1.apart p hp s hs hd
end Go.PK

namespace Go.PK
open Go Go.RowKit
theorem xr:∀ l:List UInt8,(eE l).length≤2*l.length
  | []=>Nat.le_refl _
  | c::l=>by
    rw [iP,List.length_append,List.length_cons]
    have:=xr l
    unfold pY
    split <;> simp only [List.length_cons,List.length_nil] <;> omega
theorem elT_le (M:Nat):∀ (c:UInt8) (e:List ByteArray),(∀ s∈e,s.size≤M)→(mt c e).length≤e.length*(1+2*M)
  | _,[],_=>Nat.zero_le _
  | c,t::ts,h=>by
    have h1:=elT_le M 58 ts fun s hs=>h s (List.mem_cons_of_mem _ hs)
    have h2:=xr (bl t)
    have h3:=h t (by simp)
    rw [a8] at h2
    show (c::(eE (bl t)++mt 58 ts)).length≤_
    rw [List.length_cons,List.length_append,List.length_cons,Nat.add_mul]; omega
def kL (x:Seg):Prop:=cr x=true∧x.tag≠lM∧kX x∧∀ y∈x.els,∀ s∈y,s.size≤100
theorem els_le:∀ (es:List (List ByteArray)),(∀ y∈es,y.length≤100∧∀ s∈y,s.size≤100)→(es.flatMap (mt 43)).length≤es.length*20100
  | [],_=>Nat.zero_le _
  | e::es,h=>by
    have h1:=els_le es fun y hy=>h y (List.mem_cons_of_mem _ hy)
    obtain ⟨h2,h3⟩:=h e (by simp)
    have h4:=elT_le 100 43 e h3
    have h5:e.length*201≤100*201:=Nat.mul_le_mul_right _ h2
    rw [List.flatMap_cons,List.length_append,List.length_cons,Nat.add_mul]; omega
theorem vJ:∀ (l:List Seg),(∀ x∈l,kL x)→(fX l).length≤l.length*2010004
  | [],_=>Nat.zero_le _
  | x::l,h=>by
    have h1:=vJ l fun y hy=>h y (List.mem_cons_of_mem _ hy)
    obtain ⟨h2,_,⟨h3,h4⟩,h5⟩:=h x (by simp)
    obtain ⟨h6,_⟩:=oN h2
    have h7:=els_le x.els fun y hy=>⟨h4 y hy,h5 y hy⟩
    have h8:x.els.length*20100≤100*20100:=Nat.mul_le_mul_right _ h3
    unfold fX at h1 ⊢
    rw [List.flatMap_cons,List.length_append]
    unfold sgT at h1 ⊢
    rw [List.length_append,List.length_append,a8,h6]
    simp only [List.length_cons,List.length_nil]
    rw [Nat.add_mul]; omega
theorem qW {l:List Seg} (h:∀ x∈l,kL x):∀ k (hk:k < l.length),jA k l[k]:=fun k hk=>by
  obtain ⟨h1,h2,_⟩:=h l[k] (List.getElem_mem hk)
  exact ⟨h1,fun q=>h2 q.2⟩
theorem iU {l:List Seg} (hn:l.length≤60) (h:∀ x∈l,kL x):u6 l=(⟨(fX l).toArray⟩,0)∧(⟨(fX l).toArray⟩:ByteArray).size≤200000000∧aK ⟨(fX l).toArray⟩=(l,0,0):=by
  refine ⟨wrR_ok (by omega) (qW h),?_,yU (by omega) (qW h)⟩
  have:=vJ l h
  show (List.toArray _).size≤_
  rw [List.size_toArray]; omega
theorem oQ {o:Ord} (hw:bV o=true):∀ x∈aU o,kL x:=by
  have hr:=(bB o).1 hw
  intro x hx
  have hf:=(yW o).2 x hx
  revert x
  unfold aU
  rw [if_pos hw,eq (gR hr)]
  obtain ⟨⟨a1,a2⟩,⟨b1,b2⟩,⟨c1,c2⟩,⟨d1,d2⟩,⟨e1,e2⟩,⟨f1,f2⟩⟩:=hr
  have k1:=dA (show 0≤o.id by omega) a2
  have k2:=dA (show 0≤o.fund by omega) b2
  have k3:=dA (show 0≤o.copies by omega) (show o.copies≤999999999 by omega)
  have k4:=dA e1 e2
  have k5:=qN c1 c2 d1 d2
  have k6:=dA (show (0:Int)≤1 by omega) (by omega)
  have hs:∀ x∈bT o,∀ y∈x.els,∀ s∈y,s.size≤100:=by
    unfold bT
    simp only [List.forall_mem_cons,List.not_mem_nil,false_imp_iff,implies_true,and_true]
    repeat' apply And.intro
    all_goals first | decide | omega
  have ht:∀ x∈bT o,cr x=true∧x.tag≠lM:=by
    unfold bT
    simp only [List.forall_mem_cons,List.not_mem_nil,false_imp_iff,implies_true,and_true]
    repeat' apply And.intro
    all_goals first | rfl | decide
  exact fun x hx hf=>⟨(ht x hx).1,(ht x hx).2,hf,hs x hx⟩
theorem yX {o:Ord} (hw:ej (pf o)):dB [o]∧∀ x∈bH [o],kL x:=by
  have hp:dB [o]:=⟨Nat.le_refl 1,(by decide:(1:Nat)≤999),fun p hp=>by rw [List.mem_singleton.1 hp]; exact hw⟩
  refine ⟨hp,?_⟩
  intro x hx
  have hf:=(xp [o]).2 x hx
  revert x
  have ht0:=fe (ls:=[o]) fun p hp=>by rw [List.mem_singleton.1 hp]; exact hw
  have k7:=lN (n:=ba [o]) ht0.1 15
  unfold bH
  rw [if_pos hp]
  unfold bo
  obtain ⟨⟨a1,a2⟩,⟨b1,b2⟩,⟨c1,c2⟩,⟨d1,d2⟩,⟨e1,e2⟩,⟨f1,f2⟩⟩:=hw
  have a1:1≤o.id:=a1; have a2:o.id≤999999999:=a2; have c1:0≤o.src:=c1; have c2:o.src≤999999999:=c2; have d1:0≤o.num:=d1; have d2:o.num≤999999999:=d2
  have e1:0≤o.price:=e1; have e2:o.price≤999999999:=e2; have f1:1≤o.copies:=f1; have f2:o.copies≤9999:=f2
  have k1:=dA (show 0≤o.id by omega) a2
  have k3:=dA (show 0≤o.copies by omega) (show o.copies≤999999999 by omega)
  have k4:=dA e1 e2
  have k5:=qN c1 c2 d1 d2
  have k6:(ai ((0+1:Nat):Int)).size≤9:=dA (by decide) (by decide)
  have k8:(ai ((4*[o].length+5:Nat):Int)).size≤9:=dA (n:=9) (by decide) (by decide)
  have k9:(ai (ba [o])).size≤100:=by
    have h10:(10:Int) ^ (15+1)=10000000000000000:=by decide
    have:ba [o] < 10 ^ (15+1):=by rw [h10]; have:=ht0.2; simp only [List.length_singleton] at this; omega
    have:=k7.2 this
    omega
  have hs:∀ x∈(dF++cc 0 [o])++fa [o].length (ai (ba [o])),∀ y∈x.els,∀ s∈y,s.size≤100:=by
    show ∀ x∈(dF++(ei 0 o++[]))++fa [o].length (ai (ba [o])),_
    unfold dF ei fa
    simp only [List.forall_mem_cons,List.not_mem_nil,false_imp_iff,implies_true,and_true,List.cons_append,List.nil_append,List.append_nil]
    repeat' apply And.intro
    all_goals first | decide | omega
  have ht:∀ x∈(dF++cc 0 [o])++fa [o].length (ai (ba [o])),cr x=true∧x.tag≠lM:=by
    show ∀ x∈(dF++(ei 0 o++[]))++fa [o].length (ai (ba [o])),_
    unfold dF ei fa
    simp only [List.forall_mem_cons,List.not_mem_nil,false_imp_iff,implies_true,and_true,List.cons_append,List.nil_append,List.append_nil]
    repeat' apply And.intro
    all_goals first | rfl | decide
  exact fun x hx hf=>⟨(ht x hx).1,(ht x hx).2,hf,hs x hx⟩
end Go.PK

namespace Go.PK
open Go Go.RowKit
theorem yY {n:Nat} {P:Program} {row:String} {args:Array Value} {w:World} {R:Value→World→Prop} (h:Rows P row args w R):RowsIn Fence.wide n P row args w R :=
  fun c cs _=>let ⟨v,w',r,s⟩:=h c cs; ⟨v,w',r,stepsIn_wide.2 s⟩
theorem oper_in {lr n:Nat} {P:Program} {o:Oper} {a:Act} {w:World} {K:Act→World→Prop} {Q:Exit→Act→World→Prop} (hd:∀ c,o.op≠.defer c) (h:o.wp P a w K Q):o.wpIn (Fence.wide.inRound lr) n P a w K Q:=by
  refine ⟨fun _ _=>trivial,?_⟩
  rw [Oper.semAt_eq _ _ _ hd]
  unfold Oper.wp at h
  cases hr:(execOp a.eval o).run P w with
  | ok x w' =>
    rw [hr] at h
    cases x with
    | value v=>exact h
    | skip=>exact h
    | defer d=>exact h
    | enter f args=>exact ⟨fun h=>by simp [Fence.wide] at h,callsIn_wide.2 h⟩
    | row row args=>exact ⟨fun h=>by simp [Fence.wide] at h,yY h⟩
    | _=>exact h.elim
  | halt x w' =>
    rw [hr] at h
    cases x <;> first | exact h | exact h.elim
section
variable {P:Program}
end
section
variable {P:Program} {oF:List (Nat×Obj)} {rF:List av}
end
theorem FH.none {n:Nat} {a:Act} (h1:a.tmps.size=n) (h2:a.defers=[]):FH n [] a:=⟨h1,h2,fun s v h=>by simp at h⟩
theorem FH.add {n d:Nat} {l:List (Nat×Value)} {a:Act} {v:Value} (h:FH n l a) (hv:a.tmps[d]?=some v):FH n ((d,v)::l) a:=⟨h.sz,h.df,fun s u hu=>by
  simp only [List.lookup_cons] at hu
  by_cases hs:s=d
  · subst hs; simp at hu; subst hu; exact hv
  · have:(s == d)=false:=by simpa using hs
    simp only [this] at hu
    exact h.at_ s u hu⟩
theorem Mem.three {W:World} {b1 b2 b3:Nat} {o1 o2 o3:Obj} (h1:W.heap[b1]?=some o1) (h2:W.heap[b2]?=some o2) (h3:W.heap[b3]?=some o3) (n1:b1≠b2) (n2:b1≠b3) (n3:b2≠b3) :
    Mem W [(b1,o1),(b2,o2),(b3,o3)] [(W,a7 [(b1,o1),(b2,o2),(b3,o3)])]:=by
  have h:Mem W [(b1,o1),(b2,o2),(b3,o3)] [] :=
    ⟨(fun p hp=>by simp at hp; rcases hp with rfl | rfl | rfl <;> assumption),(by simp; exact ⟨⟨n1,n2⟩,n3⟩),(fun s hs=>by cases hs),(fun s hs=>by cases hs),(fun p hp s hs=>by cases hs)⟩
  exact h.snap
end Go.PK

namespace Go.PK
open Go Go.RowKit
section
variable {P:Program} {m:Nat}
theorem yZ {n:Nat} {o:Oper} {a:Act} {w:World} {K:Act→World→Prop} {Q:Exit→Act→World→Prop} (hd:∀ c,o.op≠.defer c) (h:o.wp P a w K Q):o.wpIn Fence.wide n P a w K Q:=by
  refine ⟨fun _ _=>trivial,?_⟩
  rw [Oper.semAt_eq _ _ _ hd]
  unfold Oper.wp at h
  cases hr:(execOp a.eval o).run P w with
  | ok x w' =>
    rw [hr] at h
    cases x with
    | value v=>exact h
    | skip=>exact h
    | defer d=>exact h
    | enter f args=>exact ⟨fun h=>by simp [Fence.wide] at h,callsIn_wide.2 h⟩
    | row row args=>exact ⟨fun h=>by simp [Fence.wide] at h,fun c cs _=>let ⟨v,w',r,s⟩:=h c cs; ⟨v,w',r,stepsIn_wide.2 s⟩⟩
    | _=>exact h.elim
  | halt x w' =>
    rw [hr] at h
    cases x <;> first | exact h | exact h.elim
structure Lets (F:Fence) (m:Nat) (P:Program):Prop where
  fn:∀ f,F.fn f
  op:∀ {o:Oper} {a:Act} {w:World} {K:Act→World→Prop} {Q:Exit→Act→World→Prop},(∀ c,o.op≠.defer c)→o.wp P a w K Q→o.wpIn F m P a w K Q
theorem qX:Lets Fence.wide m P:=⟨fun _=>trivial,fun hd h=>yZ hd h⟩
theorem fG (lr:Nat):Lets (Fence.wide.inRound lr) m P:=⟨fun _=>trivial,fun hd h=>oper_in hd h⟩
theorem Ad {lops:List Oper} (hd:lops.all (fun o=>match o.op with | .defer _=>false | _=>true)=true) {o:Oper} (ho:o∈lops):∀ c,o.op≠.defer c:=fun c e=>by
  have:=List.all_eq_true.1 hd o ho
  rw [e] at this; cases this
theorem fQ {F:Fence} (hF:Lets F m P) {lops:List Oper} {Q:Exit→Act→World→Prop} {K:Act→World→Prop} (hd:lops.all (fun o=>match o.op with | .defer _=>false | _=>true)=true) {j:Nat} (hj:j≤lops.length)
    (hK:∀ a w,K a w→wpListIn F m P lops.toArray Q (lops.drop j) a w):∀ (k s:Nat) (a:Act) (w:World),s+k=j→hJ P lops.toArray Q K ((List.range' s k).map fun i=>(none,i)) a w→wpListIn F m P lops.toArray Q (lops.drop s) a w
  | 0,s,a,w,hs,h=>by
    obtain rfl:s=j:=by omega
    exact hK a w (h w (Later.refl _))
  | k+1,s,a,w,hs,h=>by
    have hlt:s < lops.length:=by omega
    rw [List.drop_eq_getElem_cons hlt]
    rw [List.range'_succ,List.map_cons] at h
    simp only [hJ,List.getElem?_toArray,List.getElem?_eq_getElem hlt] at h
    have h3:=h w (Later.refl _)
    refine wpListIn_step fun K' hK'=>?_
    split <;> rename_i hw
    · rw [if_pos hw] at h3
      exact hF.op (Ad hd (List.getElem_mem hlt)) (Oper.wp_mono (fun a' w' hk'=>hK' _ _ (fQ hF hd hj hK k (s+1) a' w' (by omega) hk')) h3)
    · rw [if_neg hw] at h3
      exact ⟨fun f _=>hF.fn f,hK' _ _ (fQ hF hd hj hK k (s+1) _ w (by omega) h3)⟩
end
section
variable {P:Program} {m n:Nat} {l:List (Nat×Value)} {own:List (Nat×Obj)} {ro:List av} {F:Fence} {Q:Exit→Act→World→Prop}
def WI (F:Fence) (m:Nat) (P:Program) (c:Code) (Q:Exit→Act→World→Prop) (n:Nat) (l:List (Nat×Value)) (own:List (Nat×Obj)) (ro:List av):Prop :=
  ∀ a w,FH n l a→Mem w own ro→c.wpIn F m P Q a w
theorem vK {x y:Code} (h:WI F m P x (Exit.then (y.wpIn F m P Q) Q) n l own ro):WI F m P (.seq x y) Q n l own ro:=fun a w ha hw=>wpIn_seq (h a w ha hw)
theorem Ae {id:Nat} {c:Code} (h:WI F m P c (Exit.inBlock id Q) n l own ro):WI F m P (.block id c) Q n l own ro:=fun a w ha hw=>wpIn_block (h a w ha hw)
theorem AG (h:S (Q .normal) n l own ro):WI F m P .skip Q n l own ro:=fun a w ha hw=>wpIn_skip (h a w ha hw)
theorem AH {c:Operand} {x y:Code} {t:Bool} (hc:ev l c=some (.bool t)) (ht:t=true→WI F m P x Q n l own ro) (hf:t=false→WI F m P y Q n l own ro):WI F m P (.cond c x y) Q n l own ro :=
  fun a w ha hw=>wpIn_cond_split (ha.eval hc) (fun h=>ht h a w ha hw) (fun h=>hf h a w ha hw)
theorem nw {y:Code} (h:WI F m P y Q n l own ro):S (Exit.then (y.wpIn F m P Q) Q .normal) n l own ro:=h
theorem t_k {K:Act→World→Prop} (h:S K n l own ro):S (Exit.then K Q .normal) n l own ro:=h
theorem kn (hF:Lets F m P) {id:Nat} {lops:List Oper} (hd:lops.all (fun o=>match o.op with | .defer _=>false | _=>true)=true)
    (h:WX P lops.toArray Q (fun a w=>Q .normal a w) (dX 0 lops.length) n l own ro):WI F m P (.region id lops.toArray false) Q n l own ro:=fun a w ha hw =>
  wpIn_region_lit (by
    have:=fQ hF (K:=fun a w=>Q .normal a w) hd (Nat.le_refl _) (fun a w hk=>by rw [List.drop_length]; exact hk) lops.length 0 a w (by omega) (h a w ha hw)
    rwa [List.drop_zero] at this)
theorem Af {id:Nat} {lops:List Oper} (j m:Nat) (hd:lops.all (fun o=>match o.op with | .defer _=>false | _=>true)=true) (hj:decide (j≤lops.length)=true)
    (h:WX P lops.toArray Q (fun a w=>wpListIn Fence.wide m P lops.toArray Q (lops.drop j) a w) (dX 0 j) n l own ro):W P (.region id lops.toArray false) Q n l own ro:=fun a w ha hw =>
  (wpIn_wide (n:=m)).1 (wpIn_region_lit (by
    have:=fQ (qX (m:=m) (P:=P)) hd (of_decide_eq_true hj) (fun a w hk=>hk) j 0 a w (by omega) (h a w ha hw)
    rwa [List.drop_zero] at this))
theorem s_yield {lops:List Oper} {j d t L:Nat} {xs:Array Operand} {tys:Array TypeId} {ty:TypeId} {pos:String} {af:Array Edge} {vs:List Value} {v:Value} {τ:Type} (I:τ→Prop) (O:τ→List (Nat×Obj))
    (ho:lops[j]?=some ⟨some d,.call ⟨.value (.tmp t),xs,tys⟩,ty,pos,af,none⟩) (hd:decide (d < n)=true) (hf:l.lookup t=some (.func (.yield L) #[] #[])) (hx:lw l xs.toList=some vs) (hm:decide (1≤m)=true)
    (hY:∀ w,Mem w own ro→YieldAt Fence.wide (m - 1) P L vs.toArray w fun e w'=>e=.returned v∧∃ x,I x∧Mem w' (O x) ro)
    (h:∀ x,I x→S (fun a w=>wpListIn Fence.wide m P lops.toArray Q (lops.drop (j+1)) a w) n ((d,v)::l) (O x) ro):S (fun a w=>wpListIn Fence.wide m P lops.toArray Q (lops.drop j) a w) n l own ro:=by
  intro a w ha hw
  have hlt:j < lops.length:=(List.getElem?_eq_some_iff.1 ho).1
  have he:lops[j]=⟨some d,.call ⟨.value (.tmp t),xs,tys⟩,ty,pos,af,none⟩:=by
    rw [List.getElem?_eq_getElem hlt] at ho; exact Option.some.inj ho
  obtain ⟨fn,tmps,assign,body,hy,hR⟩:=hY w hw
  show wpListIn Fence.wide m P lops.toArray Q (lops.drop j) a w
  rw [List.drop_eq_getElem_cons hlt,he]
  refine wpListIn_plain rfl fun K hK=>?_
  refine ⟨fun _ _=>trivial,?_⟩
  rw [Oper.semAt_eq _ _ _ (fun c e=>by cases e)]
  have hev:=ha.evals hx
  have hrun:(execOp a.eval ⟨some d,.call ⟨.value (.tmp t),xs,tys⟩,ty,pos,af,none⟩).run P w=.ok (.round L fn tmps assign body) w:=by
    have h1:(xs.map a.eval)=vs.toArray:=by
      apply Array.ext'
      rw [Array.toList_map,hev]
    have hft:a.tmps[t]?.getD undef=.func (.yield L) #[] #[]:=by rw [ha.at_ t _ hf]; rfl
    simp [execOp,resolve,hft,h1,go_sem,invoke,hy]
  rw [hrun]
  refine ⟨fun _=>of_decide_eq_true hm,?_⟩
  refine hR.mono ?_
  rintro e w' ⟨rfl,x,hI,hm'⟩
  exact hK _ _ (h x hI _ w' (ha.put v (of_decide_eq_true hd)) hm')
theorem s_rest {lops:List Oper} {j:Nat} (hd:lops.all (fun o=>match o.op with | .defer _=>false | _=>true)=true) (hj:decide (j≤lops.length)=true)
    (h:WX P lops.toArray Q (fun a w=>Q .normal a w) (dX j lops.length) n l own ro):S (fun a w=>wpListIn Fence.wide m P lops.toArray Q (lops.drop j) a w) n l own ro:=fun a w ha hw =>
  fQ qX (K:=fun a w=>Q .normal a w) hd (Nat.le_refl _) (fun a w hk=>by rw [List.drop_length]; exact hk) (lops.length - j) j a w (by have:=of_decide_eq_true hj; omega) (h a w ha hw)
end
def j3 (st:LoopState) (fn:FuncId) (tmps:Array Value) (ps:Array Tmp) (assign body:Code) (D:Nat):Loop:={ state:=st,pending:=none,fn,tmps,params:=ps,assign,body,defers:=D }
theorem jv {w:World} {g:Nat} {o o':Obj} (h:w.heap[g]?=some o):Turned w (w.putObj g o') g o':=gy h
section
variable {P:Program} {m n:Nat} {l:List (Nat×Value)} {own rest:List (Nat×Obj)} {ro:List av} {Q:Exit→Act→World→Prop} {R:Ending→World→Prop} {L:Nat} {fn:FuncId} {tmps:Array Value} {assign body:Code} {D:Nat}
theorem y0 {w:World} {d1 d2:Nat} {v1 v2:Value} (hm:Mem w ((L,.loop (j3 .ready fn tmps #[d1,d2] assign body D))::rest) ro) (hfh:FH n l ⟨tmps,[]⟩) (h1:decide (d1 < n)=true) (h2:decide (d2 < n)=true)
    (h:WI (Fence.wide.inRound L) m P assign (Exit.then (fun a w=>∃ w2,(Instr.beginRound L).run P w=.ok () w2∧body.wpIn (Fence.wide.inRound L) m P (roundPost P L R) a w2) (fun _ _ _=>False)) n ((d2,v2)::(d1,v1)::l) ((L,.loop (j3 .ready fn tmps #[d1,d2] assign body D))::rest) ro) :
    YieldAt Fence.wide m P L #[v1,v2] w R:=by
  have hl:=hm.own_at _ (.head _)
  have hy:=run_yield (P:=P) (args:=#[v1,v2]) hl rfl
  refine ⟨fn,_,assign,body,hy,roundIn_of_wpIn trivial (h _ w ?_ hm)⟩
  have:=(hfh.put v1 (of_decide_eq_true h1)).put v2 (of_decide_eq_true h2)
  have e:(#[d1,d2]:Array Tmp).zip #[v1,v2]=#[(d1,v1),(d2,v2)]:=by
    apply Array.ext'
    simp
  show FH n ((d2,v2)::(d1,v1)::l) { tmps:=((#[d1,d2]:Array Tmp).zip #[v1,v2]).foldl (fun t (q:Tmp×Value)=>t.setIfInBounds q.1 q.2) tmps,defers:=[] }
  rw [e]
  exact this
theorem AI {st:LoopState} {ps:Array Tmp} (hst:st=.ready) (h:WI (Fence.wide.inRound L) m P body (roundPost P L R) n l ((L,.loop (j3 .busy fn tmps ps assign body D))::rest) ro) :
    S (fun a w=>∃ w2,(Instr.beginRound L).run P w=.ok () w2∧body.wpIn (Fence.wide.inRound L) m P (roundPost P L R) a w2) n l ((L,.loop (j3 st fn tmps ps assign body D))::rest) ro:=by
  subst hst
  intro a w ha hw
  have hl:=hw.own_at _ (.head _)
  exact ⟨_,run_beginRound hl rfl,h a _ ha (Mem.turn (l1:=[]) hw (jv hl))⟩
theorem xt {ps:Array Tmp} (h:∀ w',Mem w' ((L,.loop (j3 .ready fn tmps ps assign body D))::rest) ro→R (.returned (.bool true)) w') :
    S (roundPost P L R .normal) n l ((L,.loop (j3 .busy fn tmps ps assign body D))::rest) ro:=by
  intro a w ha hw
  have hl:=hw.own_at _ (.head _)
  exact ⟨_,_,run_endRound none hl,h _ (Mem.turn (l1:=[]) hw (jv hl))⟩
def SD (D:Nat) (K:Act→World→Prop) (n:Nat) (l:List (Nat×Value)) (own:List (Nat×Obj)) (ro:List av):Prop :=
  ∀ a w,FH n l a→Mem w own ro→K { a with defers:=[{ target:=.collected D,args:=#[] }] } w
theorem w_range {g:Operand} {ps:Array Tmp} {gf:Nat} {lb:Array Value} {τ:Type} (I:τ→Prop) (O:τ→List (Nat×Obj)) (hg:ev l g=some (.func (.func gf) #[] lb)) (eg:∀ args w,(callFunc gf args).run P w=.ok (.enter gf args) w)
    (hc:∀ (L D:Nat) (fn:FuncId) (tmps:Array Value) (w1:World),FH n l ⟨tmps,[]⟩→Mem w1 ((L,.loop (j3 .ready fn tmps ps assign body D))::(D,.deferred (some []))::own) ro →
      Calls P gf (#[.func (.yield L) #[] #[]]++lb) w1 fun e w2=>(∃ v,e=.returned v)∧∃ x,I x∧Mem w2 ((L,.loop (j3 .ready fn tmps ps assign body D))::(D,.deferred (some []))::O x) ro)
    (h:∀ D x,I x→SD D (Q .normal) n l ((D,.deferred (some []))::O x) ro):W P (.rangeFunc g ps assign body) Q n l own ro:=by
  intro a w ha hw
  refine (wpIn_wide (n:=1)).1 (wpIn_rangeFunc ?_)
  intro fn _
  have hgv:=ha.eval hg
  have hdf:a.defers=[]:=ha.df
  have h1:Mem (w.alloc (.deferred (some []))) ((w.heap.size,.deferred (some []))::own) ro:=hw.new _
  have h2:Mem ((w.alloc (.deferred (some []))).alloc (.loop (j3 .ready fn a.tmps ps assign body w.heap.size))) ((w.heap.size+1,.loop (j3 .ready fn a.tmps ps assign body w.heap.size))::(w.heap.size,.deferred (some []))::own) ro:=by
    have h3:=h1.new (.loop (j3 .ready fn a.tmps ps assign body w.heap.size))
    rwa [World.size_alloc] at h3
  have hfh:FH n l ⟨a.tmps,[]⟩:=⟨ha.sz,rfl,ha.at_⟩
  have hC:=hc _ _ fn a.tmps _ hfh h2
  have hC2:CallsIn Fence.wide 0 P gf (#[.func (.yield (w.heap.size+1)) #[] #[]]++lb) ((w.alloc (.deferred (some []))).alloc (.loop (j3 .ready fn a.tmps ps assign body w.heap.size))) (rangePost Fence.wide 1 P (w.heap.size+1) Q { a with defers:=[{ target:=.collected w.heap.size,args:=#[] }]++a.defers }):=by
    refine callsIn_wide.2 (Calls.mono hC ?_)
    rintro e w2 ⟨⟨v,rfl⟩,x,hx,hm⟩
    have hl:=hm.own_at _ (.head _)
    refine ⟨none,_,run_endLoop hl (by simp [j3]),?_⟩
    have h4:=Mem.turn (l1:=[]) hm (jv (o':=.loop { j3 .ready fn a.tmps ps assign body w.heap.size with state:=.exhausted }) hl)
    have h5:=h _ x hx a _ ha (h4.less (List.sublist_cons_self _ _) (fun _ h=>h))
    rw [hdf]
    exact h5
  clear hC h2 h1
  have hres:(resolve a.eval (rangeCall g (w.heap.size+1)) 0).run P ((w.alloc (.deferred (some []))).alloc (.loop (j3 .ready fn a.tmps ps assign body w.heap.size)))=.ok { target:=.fn (.func gf) lb,args:=#[.func (.yield (w.heap.size+1)) #[] #[]] } ((w.alloc (.deferred (some []))).alloc (.loop (j3 .ready fn a.tmps ps assign body w.heap.size))):=by
    simp only [resolve,hgv]
    simp [go_sem]
  have hinv:∀ W:World,(invoke (.fn (.func gf) lb) #[.func (.yield (w.heap.size+1)) #[] #[]]).run P W=.ok (.enter gf (#[.func (.yield (w.heap.size+1)) #[] #[]]++lb)) W:=fun W=>by simp [invoke,go_sem,eg]
  exact ⟨w.heap.size+1,[{ target:=.collected w.heap.size,args:=#[] }],_,_,_,gf,_,_,run_enterLoop_outer _ _ _ _ _,hres,fun _ _=>trivial,hinv _,fun h=>by simp [Fence.wide] at h,hC2⟩
theorem enterM {f:FuncId} {fd:Func} {c:Code} {vs:List Value} {w:World} (m:Nat) (hf:P.funcs[f]?=some fd) (hb:fd.body=some c) (hn:fd.ntmps=n) (hv:decide (vs.length≤n)=true)
    (h:W P c (bodyPostM Fence.wide m P fd R) n (nP 0 vs) [] [(w,fun _=>True)]):Calls P f vs.toArray w R:=by
  have hv':=of_decide_eq_true hv
  refine callsIn_wide.1 (callsIn_of_wp_marks hf hb trivial ((wpIn_wide (n:=m)).2 (h _ w ⟨by simp [hn]; omega,rfl,fun s v hs=>?_⟩ (Mem.init w))) rfl)
  obtain ⟨_,h2⟩:=ge _ _ _ _ hs
  simp only [Nat.sub_zero] at h2
  have hlt:s < vs.length:=(List.getElem?_eq_some_iff.1 h2).1
  show (vs.toArray++_)[s]?=some v
  rw [Array.getElem?_append_left (by simpa using hlt)]
  simpa using h2
theorem xu {y:Code} (h:SD D (y.wp P Q) n l own ro):SD D (Exit.then (y.wp P Q) Q .normal) n l own ro:=h
theorem Ag {id:Nat} (h:SD D (Q .normal) n l own ro):SD D (Exit.inBlock id Q .normal) n l own ro:=h
theorem sd_seq {x y:Code} (h:SD D (x.wp P (Exit.then (y.wp P Q) Q)) n l own ro):SD D ((Code.seq x y).wp P Q) n l own ro:=fun a w ha hw=>wp_seq (h a w ha hw)
theorem sd_ret (h:SD D (Q .ret) n l own ro):SD D (Code.ret.wp P Q) n l own ro:=fun a w ha hw=>wp_ret (h a w ha hw)
def SDL (D:Nat) (P:Program) (ops:Array Oper) (Q:Exit→Act→World→Prop) (r:List Oper) (n:Nat) (l:List (Nat×Value)) (own:List (Nat×Obj)) (ro:List av):Prop :=
  SD D (fun a w=>wpList P ops Q r a w) n l own ro
theorem za {id:Nat} {lops:List Oper} (h:SDL D P lops.toArray Q lops n l own ro):SD D ((Code.region id lops.toArray false).wp P Q) n l own ro:=fun a w ha hw=>wp_region_lit (h a w ha hw)
theorem su {ops:Array Oper} {d:Nat} {op:Op} {ty:TypeId} {pos:String} {af:Array Edge} {r:List Oper} {v:Value} (hd:decide (d < n)=true) (hv:cx P n l own ro op ty v) (h:SDL D P ops Q r n ((d,v)::l) own ro) :
    SDL D P ops Q (⟨some d,op,ty,pos,af,none⟩::r) n l own ro:=by
  intro a w ha hw
  refine wpList_step fun K hK=>?_
  rw [if_pos (by simp [Region.wanted])]
  have he:(Act.eval { a with defers:=[{ target:=.collected D,args:=#[] }] })=a.eval:=by funext x; cases x <;> rfl
  unfold Oper.wp
  rw [he,hv a w _ ha hw rfl rfl]
  exact hK _ _ (h _ w (ha.put v (of_decide_eq_true hd)) hw)
theorem AK {ops:Array Oper} (h:SD D (Q .normal) n l own ro):SDL D P ops Q [] n l own ro:=h
theorem ret1M {fd:Func} {t:Tmp} {v:Value} (hr:fd.results=#[.tmp t]) (hv:l.lookup t=some v) (h:∀ w',Mem w' rest ro→R (.returned v) w'):SD D (bodyPostM Fence.wide m P fd R .ret) n l ((D,.deferred (some []))::rest) ro:=by
  intro a w ha hw
  have hl:=hw.own_at _ (.head _)
  have hm2:=(Mem.turn (l1:=[]) hw (jv (o':=.deferred none) hl)).less (List.sublist_cons_self _ _) (fun _ h=>h)
  refine ⟨by simp,.inl ⟨D,_,rfl,run_takeDeferred hl,v,?_,h _ hm2⟩⟩
  have:=ha.at_ t _ hv
  rw [results_tmp hr]
  simp [Array.getD_eq_getD_getElem?,this]
end
end Go.PK

namespace Go.PK
open Go Go.RowKit
def baseL:List Int→List Int→Int→Int
  | s::ss,l::ls,n=>baseL ss ls (n*l+s - 1)
  | _,_,n=>n
def lowP:List Int→Int→List Int×Int
  | [],r=>([],r)
  | l::ls,r=>(((lowP ls r).2%l+1)::(lowP ls r).1,(lowP ls r).2 / l)
def valL:List Int→List Int→Int→Int
  | n::ns,l::ls,k=>valL ns ls (k*l+n - 1)
  | _,_,k=>k
def sw (ss ls:List Int):Prop:=ss.length=ls.length∧∀ j (h1:j < ss.length) (h2:j < ls.length),1≤ls[j]∧ls[j]≤1000∧1≤ss[j]∧ss[j]≤ls[j]
theorem sw.tl {s l:Int} {ss ls:List Int} (h:sw (s::ss) (l::ls)):sw ss ls:=⟨by simpa using h.1,fun j h1 h2=>by
  have:=h.2 (j+1) (by simpa using h1) (by simpa using h2)
  simpa using this⟩
theorem sw.hd {s l:Int} {ss ls:List Int} (h:sw (s::ss) (l::ls)):1≤l∧l≤1000∧1≤s∧s≤l:=h.2 0 (by simp) (by simp)
end Go.PK

namespace Go.PK
open Go Go.RowKit
structure Pat where
  first:Int
  days:Int
  lv:List Int
  st:List Int
deriving DecidableEq
def lvAt (p:Pat) (j:Nat):Prop:=1≤p.lv.getD j 0∧p.lv.getD j 0≤1000∧1≤p.st.getD j 0∧p.st.getD j 0≤p.lv.getD j 0
instance (p:Pat) (j:Nat):Decidable (lvAt p j):=by unfold lvAt; infer_instance
def gW (p:Pat):Prop:=(1≤p.lv.length∧p.lv.length≤4∧p.st.length=p.lv.length∧p.lv.getD 0 0=0∧0≤p.st.getD 0 0∧p.st.getD 0 0≤1000000)∧(∀ j,j < p.lv.length→1≤j→lvAt p j)∧(1≤p.days∧p.days≤10000)∧lE p.first
instance (p:Pat):Decidable (gW p):=by unfold gW; infer_instance
theorem sx {l:List Int} {j:Nat} (h:j < l.length):l.getD j 0=l[j]:=by rw [List.getD_eq_getElem?_getD,List.getElem?_eq_getElem h]; rfl
theorem gW.split {p:Pat} (h:gW p):∃ s0 ls ss,p.lv=0::ls∧p.st=s0::ss∧0≤s0∧s0≤1000000∧sw ss ls∧ls.length≤3:=by
  obtain ⟨⟨h1,h2,h3,h4,h5,h6⟩,h7,_,_⟩:=h
  obtain ⟨f,d,lv,st⟩:=p
  dsimp only at h1 h2 h3 h4 h5 h6 h7
  cases lv with
  | nil=>simp at h1
  | cons a ls =>
    cases st with
    | nil=>simp at h3
    | cons s0 ss =>
      have h4:a=0:=h4
      subst h4
      refine ⟨s0,ls,ss,rfl,rfl,h5,h6,⟨by simpa using h3,fun j a b=>?_⟩,by simpa using h2⟩
      have:=h7 (j+1) (by simpa using b) (by omega)
      unfold lvAt at this
      dsimp only at this
      simp only [List.getD_cons_succ] at this
      rw [sx a,sx b] at this
      exact this
def baseP (p:Pat):Int:=baseL p.st.tail p.lv.tail 0
def lowK (p:Pat) (k:Int):List Int×Int:=lowP p.lv.tail (baseP p+k)
def numsP (p:Pat) (k:Int):List Int:=(p.st.headD 0+(lowK p k).2)::(lowK p k).1
theorem sw.one {ss ls:List Int} (h:sw ss ls):∀ l∈ls,1≤l:=fun l hl=>by
  obtain ⟨j,hj,rfl⟩:=List.mem_iff_getElem.1 hl
  exact (h.2 j (by rw [h.1]; exact hj) hj).1
def numK (p:Pat) (ns:List Int):Int:=valL ns.tail p.lv.tail (ns.getD 0 0 - p.st.getD 0 0) - baseP p
def zb (p:Pat) (ns:List Int):Prop:=gW p∧ns.length=p.lv.length∧p.st.getD 0 0≤ns.getD 0 0∧ns.getD 0 0≤p.st.getD 0 0+100000∧(∀ j,j < ns.length→1≤j→1≤ns.getD j 0∧ns.getD j 0≤p.lv.getD j 0)∧0≤numK p ns∧numK p ns < 100000
instance (p:Pat) (ns:List Int):Decidable (zb p ns):=by unfold zb; infer_instance
def zH (p:Pat) (ns:List Int):Option Int:=if zb p ns then some (numK p ns) else none
end Go.PK

namespace Go.PK
open Go Go.RowKit
theorem gW.at {p:Pat} (h:gW p) {j:Nat} (h1:1≤j) (h2:j < p.lv.length):1≤p.lv.getD j 0∧p.lv.getD j 0≤1000∧1≤p.st.getD j 0∧p.st.getD j 0≤p.lv.getD j 0:=h.2.1 j h2 h1
theorem zc (l:List Int) (j:Nat):l.tail.getD j 0=l.getD (j+1) 0:=by cases l <;> simp
section
variable {P:Program} {n:Nat} {l:List (Nat×Value)} {own:List (Nat×Obj)} {ro:List av} {lops:List Oper} {Q:Exit→Act→World→Prop} {K:Act→World→Prop}
  {rest:List (Option Bool×Nat)} {k:Option Bool} {i d:Nat} {op:Op} {ty:TypeId} {pos:String} {af:Array Edge} {x y z':Operand} {t t1 t2:TypeId}
end
end Go.PK

namespace Go.PK
open Go Go.RowKit
section
variable {P:Program} {H:Type} {enc:TypeId×Value→H} {W:World} {base b0:Nat} {sp:Nat→Bool} {held:Bool} {r:Reach} {t e:TypeId} {v:Value} {d:DataW H} {ps:List MemPlace}
theorem top_kn {k:IntKind} {n:Nat} (ht:P.underlying t=some (.array n e)) (hc:P.cellsOf t=n) (hn:0 < n) (he:P.underlying e=some (.int k)) (hce:P.cellsOf e=1) (hval:Value.okWide P W r b0 t v) (h:DataW.Trod enc P W base sp held t v d ps) :
    ∃ xs:List Int,v=.agg (xs.map (Value.int k)).toArray∧xs.length=n∧∀ x∈xs,k.min≤x∧x≤k.max:=by
  obtain ⟨cs,xs,rfl,hrd⟩:=top_agg ht rfl (rdr_arr (T:=tyK k) ht (by rw [hc]; exact (Nat.mul_one n).symm) hn (rdr_k he hce)) hval h
  obtain ⟨h1,h2,h3⟩:=arr_k hrd
  exact ⟨xs,by rw [← h1],h2,h3⟩
theorem top_k4 {k:IntKind} (ht:P.underlying t=some (.array 4 e)) (hc:P.cellsOf t=4) (he:P.underlying e=some (.int k)) (hce:P.cellsOf e=1) (hval:Value.okWide P W r b0 t v) (h:DataW.Trod enc P W base sp held t v d ps) :
    ∃ a b c f:Int,v=.agg #[.int k a,.int k b,.int k c,.int k f]∧(k.min≤a∧a≤k.max)∧(k.min≤b∧b≤k.max)∧(k.min≤c∧c≤k.max)∧k.min≤f∧f≤k.max:=by
  obtain ⟨xs,rfl,hl,hx⟩:=top_kn ht hc (by decide) he hce hval h
  match xs,hl with
  | [a,b,c,f],_=>exact ⟨a,b,c,f,rfl,hx a (by simp),hx b (by simp),hx c (by simp),hx f (by simp)⟩
end
end Go.PK

namespace Go.PK
open Go Go.RowKit
theorem gW.one {p:Pat} (h:gW p):∀ l∈p.lv.tail,1≤l:=fun l hl=>by
  obtain ⟨j,hj,rfl⟩:=List.getElem_of_mem hl
  have hj':j+1 < p.lv.length:=by simp at hj; omega
  have:=(h.at (j:=j+1) (by omega) hj').1
  rw [← sx hj,zc]; exact this
theorem zd {p:Pat} {ns:List Int} (h:zb p ns):(zH p ns).getD 0=numK p ns∧(zH p ns).isSome=true:=by unfold zH; rw [if_pos h]; exact ⟨rfl,rfl⟩
theorem ze {p:Pat} {ns:List Int} (h:¬zb p ns):(zH p ns).getD 0=0∧(zH p ns).isSome=false:=by unfold zH; rw [if_neg h]; exact ⟨rfl,rfl⟩
end Go.PK

namespace Go.PK
open Go Go.RowKit
theorem ag.set {size n b c k:Nat} {cs xs:List Value} {v:Value} (h:ag size (some (b,cs,c)) n xs) (hk:k < n*size):ag size (some (b,cs.set k v,c)) n (xs.set k v):=by
  obtain ⟨h1,h2,h3,h4,h5⟩:=h
  exact ⟨by simpa using h1,h2,h3,by simpa using h4,by simp only at h5 ⊢; rw [List.take_set,h5]⟩
theorem gW.lv {p:Pat} (h:gW p):sw p.st.tail p.lv.tail:=by
  obtain ⟨s0,ls,ss,h1,h2,_,_,h5,_⟩:=h.split
  rw [h1,h2]; exact h5
end Go.PK

namespace Go.PK
open Go Go.RowKit
end Go.PK

namespace Go.PK
open Go Go.RowKit
structure Ent where
  fr:Int
  to:Int
  sk:Bool
  day:Int
deriving DecidableEq
def entC (x:Ent):List Value:=[.int .i64 x.fr,.int .i64 x.to,.bool x.sk,.int .i64 x.day]
def entsC (l:List Ent):List Value:=l.flatMap entC
def un (x:Ent):Prop:=aj x.fr∧aj x.to∧aj x.day
def tyEnt:Ty Ent where
  size:=4
  rd:=fun _ _ cs x=>cs=entC x∧un x
  len:=fun h=>by rw [h.1]; rfl
  keep:=fun h _=>h
theorem ents_rd {D:Nat→Prop} {w:World} {own:List (Nat×Obj)} {ro:List av} {e:TypeId} {R:ak} {es:List Ent} {n:Nat} (hr:ag 4 R n (entsC es)) (hn:n=es.length) (hi:∀ x∈es,un x)
    (hm:Mem w own ro) (hin:∀ p∈aA e R,p∈own) (hD:∀ p∈aA e R,D p.1):ab tyEnt D w (au R n) es:=by
  subst hn
  have h:cZ tyEnt (fun _=>False) w R es:=⟨es.map entC,by simp,by rw [← List.flatMap_def]; exact hr,fun j h1 h2=>by rw [List.getElem_map]; exact ⟨rfl,hi _ (List.getElem_mem h2)⟩⟩
  exact h.rd hm hin (fun _ h=>h.elim) hD rfl
def atoiV (x:ByteArray):Int:=match Lib.atoiAll (bl x) with | .ok n=>n | _=>0
def numOKb (x:ByteArray):Bool:=match Lib.atoiAll (bl x) with | .ok n=>decide (0≤n) && decide (x.size≤7) && decide (ai n=x) | _=>false
def vL (s sep:ByteArray):List ByteArray:=Lib.splitB sep 0 (Lib.countB s sep) s
def xw:ByteArray:=⟨#[47]⟩
def j4 (s:ByteArray):List Int×Bool:=if (vL s xw).all numOKb then ((vL s xw).map atoiV,decide ((vL s xw).length≤4)) else ([],false)
def cutG (s sep:ByteArray):ByteArray×ByteArray×Bool:=(⟨(Lib.cut (bl s) (bl sep)).1.toArray⟩,⟨(Lib.cut (bl s) (bl sep)).2.1.toArray⟩,(Lib.cut (bl s) (bl sep)).2.2)
def qa (es:List Ent) (to:Int):Nat:=es.findIdx (fun e=>decide (to < e.fr))
def insE (es:List Ent) (x:Ent):List Ent:=es.take (qa es x.to)++x::es.drop (qa es x.to)
theorem insI_le (es:List Ent) (to:Int):qa es to≤es.length:=List.findIdx_le_length
def tkR (text:ByteArray):ByteArray:=⟨(Lib.trimPrefix (bl text) (bl ⟨#[120]⟩)).toArray⟩
def tkA (text:ByteArray):ByteArray:=(cutG (tkR text) ⟨#[45]⟩).1
def tkB (text:ByteArray):ByteArray:=if (cutG (tkR text) ⟨#[45]⟩).2.2 then (cutG (tkR text) ⟨#[45]⟩).2.1 else (cutG (tkR text) ⟨#[45]⟩).1
def tkS (text:ByteArray):Bool:=Lib.hasPrefix (bl text) (bl ⟨#[120]⟩)
theorem uo (p:Pat) (ns:List Int):0≤(zH p ns).getD 0∧(zH p ns).getD 0 < 100000:=by
  by_cases h:zb p ns
  · rw [(zd h).1]; exact h.2.2.2.2.2
  · rw [(ze h).1]; decide
end Go.PK

namespace Go.PK
open Go Go.RowKit
def serC (p:Pat) (r1 r2 R:ak) (n:Nat):List Value:=[.int .i64 p.first,.int .i64 p.days,au r1 p.lv.length,au r2 p.st.length,au R n]
structure SerOK (p:Pat) (es:List Ent) (r1 r2 R:ak):Prop where
  fst:aj p.first
  dys:aj p.days
  lvs:ag 1 r1 p.lv.length (p.lv.map (Value.int .i64))
  lin:∀ d∈p.lv,aj d
  sts:ag 1 r2 p.st.length (p.st.map (Value.int .i64))
  sin:∀ d∈p.st,aj d
  ent:ag 4 R es.length (entsC es)
  ein:∀ x∈es,un x
theorem SerOK.with {p:Pat} {es es':List Ent} {r1 r2 R R':ak} (h:SerOK p es r1 r2 R) (h1:ag 4 R' es'.length (entsC es')) (h2:∀ x∈es',un x):SerOK p es' r1 r2 R':=⟨h.fst,h.dys,h.lvs,h.lin,h.sts,h.sin,h1,h2⟩
end Go.PK

namespace Go.PK
open Go Go.RowKit
def lS (x:Ent):Prop:=0≤x.fr∧x.fr≤x.to∧x.to < 100000∧x.to - x.fr < 100∧lE x.day
theorem lS.in {x:Ent} (h:lS x):un x:=by
  obtain ⟨h1,h2,h3,h4,h5⟩:=h
  unfold lE at h5
  exact ⟨by unfold aj; omega,by unfold aj; omega,by unfold aj; omega⟩
structure SerRd (w:World) (b:Nat) (p:Pat) (es:List Ent) (v1 v2 v3:Value):Prop where
  cells:∀ j (hj:j < [Value.int .i64 p.first,Value.int .i64 p.days,v1,v2,v3].length),w.cell? ⟨b,j,none⟩=some [Value.int .i64 p.first,Value.int .i64 p.days,v1,v2,v3][j]
  lvs:ab i8 (fun _=>True) w v1 p.lv
  sts:ab i8 (fun _=>True) w v2 p.st
  fst:aj p.first
  dys:aj p.days
  ent:ab tyEnt (fun _=>True) w v3 es
theorem SerOK.rd {p:Pat} {es:List Ent} {r1 r2 R:ak} (h:SerOK p es r1 r2 R) {w:World} {own:List (Nat×Obj)} {ro:List av} {b:Nat} {e e1 e2:TypeId} (hm:Mem w own ro) (hb:(b,Obj.cells (serC p r1 r2 R es.length).toArray e (0,0))∈own)
    (h1:∀ q∈aA e1 r1,q∈own) (h2:∀ q∈aA e1 r2,q∈own) (h3:∀ q∈aA e2 R,q∈own):SerRd w b p es (au r1 p.lv.length) (au r2 p.st.length) (au R es.length) where
  cells:=fun j hj=>by
    have:=hm.cell_own hb j
    rw [this,List.getElem?_toArray]
    exact List.getElem?_eq_getElem (l:=serC p r1 r2 R es.length) hj
  lvs:=dy (e:=e1) h.lvs rfl h.lin hm h1 (fun _ _=>trivial)
  sts:=dy (e:=e1) h.sts rfl h.sin hm h2 (fun _ _=>trivial)
  fst:=h.fst
  dys:=h.dys
  ent:=ents_rd (e:=e2) h.ent rfl h.ein hm h3 (fun _ _=>trivial)
theorem SerRd.keep {w w':World} {b:Nat} {p:Pat} {es:List Ent} {v1 v2 v3:Value} (h:SerRd w b p es v1 v2 v3) (hl:Later w w'):SerRd w' b p es v1 v2 v3 :=
  ⟨fun j hj=>(hl.cell (p:=⟨b,j,none⟩) (eu (h.cells j hj))).trans (h.cells j hj),h.lvs.keep (aV.later hl),h.sts.keep (aV.later hl),h.fst,h.dys,h.ent.keep (aV.later hl)⟩
end Go.PK

namespace Go.PK
open Go Go.RowKit
end Go.PK

namespace Go.PK
open Go Go.RowKit
end Go.PK

namespace Go.PK
open Go Go.RowKit
section
variable {P:Program} {n:Nat} {l:List (Nat×Value)} {own:List (Nat×Obj)} {ro:List av} {ty t t':TypeId} {x y:Operand}
end
end Go.PK

namespace Go.PK
open Go Go.RowKit
end Go.PK

namespace Go.PK
open Go Go.RowKit
end Go.PK

namespace Go.PK
open Go Go.RowKit
end Go.PK

namespace Go.PK
open Go Go.RowKit
end Go.PK

namespace Go.PK
open Go Go.RowKit
theorem mE {a b:ByteArray} (h:bl a=bl b):a=b:=by rw [← fx a,h,fx]
theorem iy (s:ByteArray) (i j:Nat):bl (s.extract i j)=((bl s).drop i).take (j - i):=by
  show (s.extract i j).data.toList=_
  rw [ByteArray.data_extract,Array.toList_extract,List.extract_eq_take_drop]; rfl
end Go.PK

namespace Go.PK
open Go Go.RowKit
section
variable (rd:ByteArray→Int×Int)
end
end Go.PK

namespace Go.PK
open Go Go.RowKit
def bC (n:Nat):List UInt8:=if h:n < 128 then [UInt8.ofNat n] else UInt8.ofNat (n%128+128)::bC (n / 128)
termination_by n
decreasing_by omega
theorem dk {n:Nat} (h:n < 128):bC n=[UInt8.ofNat n]:=by rw [bC,dif_pos h]
theorem ff {n:Nat} (h:¬n < 128):bC n=UInt8.ofNat (n%128+128)::bC (n / 128):=by rw [bC,dif_neg h]
theorem uq:∀ (k n:Nat),n < 128 ^ (k+1)→(bC n).length≤k+1
  | 0,n,h=>by rw [dk (by simpa using h)]; exact Nat.le_refl _
  | k+1,n,h=>by
    by_cases hn:n < 128
    · rw [dk hn]; simp
    · rw [ff hn,List.length_cons]
      have:=uq k (n / 128) (by rw [Nat.div_lt_iff_lt_mul (by decide),← Nat.pow_succ]; exact h)
      omega
theorem dL {n:Nat} (h:n < 18446744073709551616):(bC n).length≤10:=uq 9 n (Nat.lt_of_lt_of_le h (by decide))
theorem lT (n:Nat):1≤(bC n).length:=by
  by_cases hn:n < 128
  · rw [dk hn]; exact Nat.le_refl _
  · rw [ff hn,List.length_cons]; omega
theorem or128 {c:Nat} (h:c < 128):orK .u8 (((UInt8.ofNat c).toNat:Nat):Int) 128=((UInt8.ofNat (c+128)).toNat:Nat):=by
  have key:∀ c:Fin 128,orK .u8 (((UInt8.ofNat c.val).toNat:Nat):Int) 128=((UInt8.ofNat (c.val+128)).toNat:Nat):=by decide +kernel
  exact key ⟨c,h⟩
def ko (n:Int):Nat:=if 0≤n then (2*n).toNat else (2*(-1 - n)+1).toNat
theorem mG {n:Int} (h:-9223372036854775808≤n∧n≤9223372036854775807):ko n < 18446744073709551616:=by unfold ko; split <;> omega
theorem xx (a:Int):(BitVec.ofInt 64 a ^^^ BitVec.ofInt 64 0).toNat=(BitVec.ofInt 64 a).toNat:=by simp
theorem bv_xor1 (a:Int):(BitVec.ofInt 64 a ^^^ BitVec.ofInt 64 18446744073709551615).toNat=18446744073709551615 - (BitVec.ofInt 64 a).toNat:=by
  rw [show BitVec.ofInt 64 18446744073709551615=BitVec.allOnes 64 by decide,BitVec.xor_allOnes,BitVec.toNat_not]
theorem xor_sgn {n:Int} (h:-9223372036854775808≤n∧n≤9223372036854775807):yr .u64 (IntKind.u64.wrap (IntKind.u64.wrap n*2)) (IntKind.u64.wrap (n / 9223372036854775808))=(ko n:Nat):=by
  have w64:∀ z:Int,IntKind.u64.wrap z=z%18446744073709551616:=fun z=>by simp [IntKind.wrap,IntKind.bits,IntKind.signed]
  unfold yr
  rw [w64,w64,w64,w64]
  by_cases h0:0≤n
  · have e1:n / 9223372036854775808=0:=by omega
    rw [e1,show (0:Int)%18446744073709551616=0 by decide]
    show (((BitVec.ofInt 64 _ ^^^ BitVec.ofInt 64 0).toNat:Nat):Int)%_=_
    rw [xx,BitVec.toNat_ofInt]
    unfold ko
    rw [if_pos h0]
    have e2:n%18446744073709551616*2%18446744073709551616=2*n:=by omega
    rw [e2]
    have e3:(2*n%((2 ^ 64:Nat):Int)).toNat=(2*n).toNat:=by
      have:((2 ^ 64:Nat):Int)=18446744073709551616:=by decide
      rw [this]; congr 1; omega
    rw [e3]; omega
  · have e1:n / 9223372036854775808=-1:=by omega
    rw [e1,show (-1:Int)%18446744073709551616=18446744073709551615 by decide]
    show (((BitVec.ofInt 64 _ ^^^ BitVec.ofInt 64 18446744073709551615).toNat:Nat):Int)%_=_
    rw [bv_xor1,BitVec.toNat_ofInt]
    unfold ko
    rw [if_neg h0]
    have e2:n%18446744073709551616*2%18446744073709551616=18446744073709551616+2*n:=by omega
    rw [e2]
    have e3:((18446744073709551616+2*n)%((2 ^ 64:Nat):Int)).toNat=(18446744073709551616+2*n).toNat:=by
      have:((2 ^ 64:Nat):Int)=18446744073709551616:=by decide
      rw [this]; congr 1; omega
    rw [e3]; omega
def cF (l:List Int):List UInt8:=bC l.length++l.flatMap fun n=>bC (ko n)
def fu (l:List Int) (k:Nat):List UInt8:=bC l.length++(l.take k).flatMap fun n=>bC (ko n)
theorem jw (l:List Int):fu l 0=bC l.length:=by simp [fu]
theorem jy {l:List Int} {k:Nat} (h:k < l.length):fu l (k+1)=fu l k++bC (ko l[k]):=by
  unfold fu
  rw [← List.take_append_getElem h,List.flatMap_append,List.append_assoc]; simp
theorem kp (l:List Int):fu l l.length=cF l:=by unfold fu cF; rw [List.take_length]
theorem mH {l:List Int} (hl:l.length < 18446744073709551616) (h:∀ n∈l,-9223372036854775808≤n∧n≤9223372036854775807):∀ k,k≤l.length→(fu l k).length≤10+10*k
  | 0,_=>by rw [jw]; exact dL hl
  | k+1,hk=>by
    have ih:=mH hl h k (by omega)
    rw [jy hk,List.length_append]
    have:=dL (mG (h _ (List.getElem_mem hk)))
    omega
theorem ct {n:Int} (h:0≤n∧n < 18446744073709551616):IntKind.u64.wrap n=n:=by
  simp [IntKind.wrap,IntKind.bits,IntKind.signed]; omega
section
variable {P:Program} {n:Nat} {l:List (Nat×Value)} {own:List (Nat×Obj)} {ro:List av} {ty t t':TypeId} {x y:Operand} {k k':IntKind} {a b c:Int}
theorem fK {td:TypeDesc} (hs:P.underlying t=some td) (hd:P.underlying t'=some (.int k')) (hx:ev l x=some (.int k a)) (hc:k'.wrap a=c):cx P n l own ro (.convert t t' x) ty (.int k' c):=hc▸me hs hd hx
theorem oV (hx:ev l x=some (.int k a)) (hy:ev l y=some (.int k b)) (hc:k.wrap (a+b)=c):cx P n l own ro (.binOp .add t x y t') ty (.int k c):=hc▸v_add hx hy
theorem sy (hx:ev l x=some (.int k a)) (hy:ev l y=some (.int k b)) (hc:k.wrap (a*b)=c):cx P n l own ro (.binOp .mul t x y t') ty (.int k c):=hc▸v_mul hx hy
theorem vM (hx:ev l x=some (.int k a)) (hy:ev l y=some (.int k b)) (h0:b≠0) (hc:k.wrap (a.tdiv b)=c):cx P n l own ro (.binOp .quo t x y t') ty (.int k c):=hc▸v_quo hx hy h0
end
end Go.PK

namespace Go.PK
open Go Go.RowKit
def txTo (ns:List Int):Nat→ByteArray
  | 0=>⟨#[]⟩
  | k+1=>(if 0 < k then txTo ns k++xw else txTo ns k)++ai (ns.getD k 0)
def txN (ns:List Int):ByteArray:=txTo ns ns.length
def isT (p:Pat) (sk:Bool) (k:Int):ByteArray:=if sk then ⟨#[120]⟩++txN (numsP p k) else txN (numsP p k)
end Go.PK

namespace Go.PK
open Go Go.RowKit
def tkE (p:Pat) (text:ByteArray) (day:Int):Option Ent×Int :=
  if (!(j4 (tkA text)).2 || !(j4 (tkB text)).2)=true then (none,11) else
  if lE day then
    match zH p (j4 (tkA text)).1,zH p (j4 (tkB text)).1 with
    | some i,some j=>if j < i∨100≤j - i then (none,32) else (some ⟨i,j,tkS text,day⟩,0)
    | _,_=>(none,32)
  else (none,1)
def nc (es:List Ent) (x:Ent):Bool:=es.any fun e=>decide (x.fr≤e.to) && decide (e.fr≤x.to)
theorem tkE_ok {p:Pat} {text:ByteArray} {day:Int} {x:Ent} (h:(tkE p text day).1=some x):lS x∧(tkE p text day).2=0:=by
  unfold tkE at h ⊢
  split at h
  · cases h
  · rename_i h1
    rw [if_neg h1]
    split at h
    · rename_i h2
      rw [if_pos h2]
      cases h3:zH p (j4 (tkA text)).1 with
      | none=>rw [h3] at h; cases h
      | some i =>
        cases h4:zH p (j4 (tkB text)).1 with
        | none=>rw [h3,h4] at h; cases h
        | some j =>
          rw [h3,h4] at h
          dsimp only at h ⊢
          split at h
          · cases h
          · rename_i h5
            rw [if_neg h5]
            injection h with h
            have r1:=uo p (j4 (tkA text)).1
            have r2:=uo p (j4 (tkB text)).1
            rw [h3] at r1; rw [h4] at r2
            simp only [Option.getD_some] at r1 r2
            rw [← h]
            exact ⟨⟨r1.1,by dsimp only; omega,r2.2,by dsimp only; omega,h2⟩,rfl⟩
    · cases h
def srt (es:List Ent):Prop:=es.Pairwise (fun x y=>x.to < y.fr)∧∀ x∈es,lS x
theorem srt_nil:srt []:=⟨List.Pairwise.nil,fun x hx=>by cases hx⟩
theorem lS.le {x:Ent} (h:lS x):x.fr≤x.to:=h.2.1
theorem meets_no {es:List Ent} {x:Ent} (h:nc es x=false):∀ e∈es,x.to < e.fr∨e.to < x.fr:=fun e he=>by
  unfold nc at h
  rw [List.any_eq_false] at h
  have:=h e he
  simp only [Bool.and_eq_true,decide_eq_true_eq] at this
  omega
theorem zg {es:List Ent} {x:Ent} (hs:srt es) (hx:lS x) (hm:nc es x=false):∃ A B,es=A++B∧insE es x=A++x::B∧(∀ e∈A,e.to < x.fr)∧∀ e∈B,x.to < e.fr:=by
  refine ⟨es.take (qa es x.to),es.drop (qa es x.to),(List.take_append_drop _ _).symm,rfl,fun e he=>?_,fun e he=>?_⟩
  · have h1:=meets_no hm e (List.mem_of_mem_take he)
    rcases h1 with h1 | h1
    · obtain ⟨j,hj,rfl⟩:=List.getElem_of_mem he
      rw [List.length_take] at hj
      rw [List.getElem_take] at h1
      have:=List.not_of_lt_findIdx (xs:=es) (p:=fun e:Ent=>decide (x.to < e.fr)) (i:=j) (show j < List.findIdx _ es by unfold qa at hj; omega)
      rw [decide_eq_true h1] at this; cases this
    · exact h1
  · have hi:=insI_le es x.to
    obtain ⟨j,hj,rfl⟩:=List.getElem_of_mem he
    rw [List.length_drop] at hj
    rw [List.getElem_drop]
    have hlt:qa es x.to < es.length:=by omega
    have h0:x.to < es[qa es x.to].fr:=by
      have:=List.findIdx_getElem (xs:=es) (p:=fun e:Ent=>decide (x.to < e.fr)) (w:=hlt)
      exact of_decide_eq_true this
    by_cases hj0:j=0
    · subst hj0; exact h0
    · have h1:=List.pairwise_iff_getElem.1 hs.1 (qa es x.to) (qa es x.to+j) hlt (by omega) (by omega)
      have h2:=(hs.2 _ (List.getElem_mem hlt)).le
      omega
theorem ins_srt {es:List Ent} {x:Ent} (hs:srt es) (hx:lS x) (hm:nc es x=false):srt (insE es x)∧(insE es x).Perm (x::es):=by
  obtain ⟨A,B,h1,h2,h3,h4⟩:=zg hs hx hm
  rw [h2]
  have hp:(A++x::B).Perm (x::es):=by rw [h1]; exact List.perm_middle
  refine ⟨⟨?_,fun e he=>?_⟩,hp⟩
  · have hs1:=hs.1
    rw [h1,List.pairwise_append] at hs1
    rw [List.pairwise_append]
    refine ⟨hs1.1,List.pairwise_cons.2 ⟨h4,hs1.2.1⟩,fun a ha b hb=>?_⟩
    rcases List.mem_cons.1 hb with rfl | hb
    · exact h3 a ha
    · exact hs1.2.2 a ha b hb
  · rcases List.mem_cons.1 (hp.subset he) with rfl | he
    · exact hx
    · exact hs.2 e he
theorem srt_eq:∀ {a b:List Ent},srt a→srt b→a.Perm b→a=b
  | [],b,_,_,h=>(List.nil_perm.1 h).symm
  | x::a,[],_,_,h=>by simpa using h.length_eq
  | x::a,y::b,ha,hb,h=>by
    have hxy:x=y:=by
      rcases List.mem_cons.1 (h.subset (List.mem_cons_self ..)) with h1 | h1
      · exact h1
      · rcases List.mem_cons.1 (h.symm.subset (List.mem_cons_self ..)) with h2 | h2
        · exact h2.symm
        · have h3:=(List.pairwise_cons.1 hb.1).1 x h1
          have h4:=(List.pairwise_cons.1 ha.1).1 y h2
          have h5:=(ha.2 x (List.mem_cons_self ..)).le
          have h6:=(hb.2 y (List.mem_cons_self ..)).le
          omega
    subst hxy
    rw [srt_eq ⟨(List.pairwise_cons.1 ha.1).2,fun e he=>ha.2 e (List.mem_cons_of_mem _ he)⟩ ⟨(List.pairwise_cons.1 hb.1).2,fun e he=>hb.2 e (List.mem_cons_of_mem _ he)⟩ h.cons_inv]
structure ActD where
  fr:Int
  to:Int
  day:Int
  sk:Bool
  two:Bool
  raw:ByteArray
def callT (p:Pat) (a:ActD):ByteArray:=if a.raw≠⟨#[]⟩ then a.raw else
  if a.two then isT p a.sk (a.fr%200)++⟨#[45]⟩++txN (numsP p (a.to%320)) else isT p a.sk (a.fr%200)
def callD (p:Pat) (a:ActD):Int:=IntKind.i64.wrap (p.first+a.day)
def vO (p:Pat) (a:ActD):Option Ent:=(tkE p (callT p a) (callD p a)).1
structure Of (p:Pat) (es:List Ent) (gs:List ActD):Prop where
  srt:srt es
  all:∀ a∈gs,(vO p a).isSome=true
  perm:es.Perm (gs.filterMap (vO p))
theorem Of.nil (p:Pat):Of p [] []:=⟨srt_nil,(fun a ha=>by cases ha),List.Perm.refl _⟩
theorem Of.snoc {p:Pat} {es:List Ent} {gs:List ActD} (h:Of p es gs) {a:ActD} {x:Ent} (hx:vO p a=some x) (hm:nc es x=false):Of p (insE es x) (gs++[a]):=by
  obtain ⟨h1,h2⟩:=ins_srt h.srt (tkE_ok hx).1 hm
  refine ⟨h1,fun b hb=>?_,?_⟩
  · rcases List.mem_append.1 hb with hb | hb
    · exact h.all b hb
    · rw [List.mem_singleton.1 hb,hx]; rfl
  · rw [List.filterMap_append]
    have:List.filterMap (vO p) [a]=[x]:=by rw [List.filterMap_cons,hx]; rfl
    rw [this]
    exact h2.trans ((h.perm.cons x).trans (List.perm_append_comm (l₁:=[x])))
theorem zY {es:List Ent} (h:srt es):es.Pairwise fun x y=>x.to < y.fr∨y.to < x.fr:=h.1.imp fun h=>.inl h
theorem Of.next {p:Pat} {es es2:List Ent} {gs g2:List ActD} (h:Of p es gs) (hp:g2.Perm gs) {k:Nat} (hk:k < g2.length) (h2:Of p es2 (g2.take k)):∃ x,vO p g2[k]=some x∧nc es2 x=false∧lS x:=by
  have hs:(vO p g2[k]).isSome=true:=h.all _ (hp.subset (List.getElem_mem hk))
  obtain ⟨x,hx⟩:=Option.isSome_iff_exists.1 hs
  refine ⟨x,hx,?_,(tkE_ok hx).1⟩
  have hap:(g2.filterMap (vO p)).Pairwise fun x y=>x.to < y.fr∨y.to < x.fr :=
    ((zY h.srt).perm h.perm (fun h=>h.symm)).perm ((hp.symm).filterMap _) (fun h=>h.symm)
  have e:g2=g2.take k++g2[k]::g2.drop (k+1):=by rw [List.getElem_cons_drop,List.take_append_drop]
  rw [e,List.filterMap_append,List.filterMap_cons,hx,List.pairwise_append] at hap
  cases hm:nc es2 x with
  | false=>rfl
  | true =>
    unfold nc at hm
    rw [List.any_eq_true] at hm
    obtain ⟨y,hy,hc⟩:=hm
    rw [Bool.and_eq_true,decide_eq_true_eq,decide_eq_true_eq] at hc
    have:=hap.2.2 y (h2.perm.subset hy) x (List.mem_cons_self ..)
    omega
theorem Of.same {p:Pat} {es es2:List Ent} {gs g2:List ActD} (h:Of p es gs) (hp:g2.Perm gs) (h2:Of p es2 g2):es2=es :=
  srt_eq h2.srt h.srt (h2.perm.trans ((hp.filterMap _).trans h.perm.symm))
end Go.PK
