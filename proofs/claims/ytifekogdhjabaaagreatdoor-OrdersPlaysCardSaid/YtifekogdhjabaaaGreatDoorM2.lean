/- Of the proofs of YtifekogdhjabaaaGreatDoor: PkTree PkTree2 PkTree3 PkR PkEdi2 PkNest PkEdi3 PkEdi4 PkStr PkEdi5 PkOrd PkEdi7 PkOps7 PkEdi8 PkNum PkInv PkOps8 PkText PkInv2 PkEq PkPay PkPayT PkPayR PkPayS PkPayL PkEdi6 PkWr PkFund PkOrdS PkFull PkFull2 PkBent2 PkFund2 PkRound PkIter PkSer PkSer2 PkSer3 PkTop PkSer4 PkSer5 PkRef4 PkSer6 PkSer7 PkSer8 PkSer9 PkCal4 PkSerW PkSan PkIss PkLaw25 PkSerR PkSerT PkSerU PkCod PkClm PkTake, put together. -/
import Derived.Test.YtifekogdhjabaaaGreatDoorM1
import Derived.Lib.AppendStr
import Derived.Laws.BytesArg
import Derived.Lib.ItoaLen
import Derived.Lib.SplitLaws
import Derived.Sort.Grow
import Derived.Laws.Runes
import Derived.Lib.AtoiAll
import Derived.Lib.ItoaNum
import Derived.Lib.IndexBytes
import Derived.Lib.IndexMore
import Derived.Laws.ResultCell
import Derived.Laws.StructEq
import Derived.ChangeKeysEq
import Derived.ArgAppend
import Derived.OrdersIn
import Derived.RangeFuncCalls
import Derived.RangeFuncLeaves
import Derived.RangeFuncRecord
import Derived.RangeFuncSeq
import Derived.Laws.MakeOwn
import Derived.Lib.AtoiAllCases
import Derived.Lib.CountLaws
set_option linter.unusedVariables false
set_option linter.unusedSimpArgs false
set_option maxRecDepth 100000
set_option maxHeartbeats 4000000

namespace Go.PK
open Go Go.RowKit
inductive Pl where
  | done
  | flt (i:Nat) (t:Pl)
  | gr (i:Nat) (t e:Pl)
  | nil
def Pl.heads:Pl→List Nat
  | .gr i _ e=>i::e.heads
  | _=>[]
section
variable {P:Program} {ops:Array Oper} {md:Region.Mode}
def py (P:Program) (ops:Array Oper) (K:Act→World→Prop):Pl→Act→World→Prop
  | .done,a,w=>K a w
  | .flt i t,a,w=>match ops[i]? with
    | none=>False
    | some o=>if Region.wanted o (yielded ops a.tmps) then flt P o a w (fun a'=>py P ops K t a' w) else py P ops K t (a.put o.dst undef) w
  | .gr i t e,a,w=>(match ops[i]? with
    | none=>False
    | some o=>if Region.wanted o (yielded ops a.tmps) then grw P o a w (py P ops K t) else py P ops K t (a.put o.dst undef) w)∧py P ops K e a w
  | .nil,_,_=>True
def dt (md:Region.Mode) (ops:Array Oper) (n:Nat):Bool→Nat→Pl→Array Bool→Bool
  | alt,f,.done,listed=>!alt && decide (f=0) && Region.seqB md ops (ops.size - n) n listed
  | alt,f,.flt i t,listed=>!alt && decide (0 < f) && decide (i < n) && (Region.ready md ops listed).contains i && Region.free md ops listed i && dt md ops n false (f - 1) t (listed.setIfInBounds i true)
  | alt,f,.gr i t e,listed=>(alt || ((Region.ready md ops listed).all (fun j=>((Pl.gr i t e).heads).contains j) && !(Region.ready md ops listed).isEmpty)) && decide (0 < f) && decide (i < n) && dt md ops n false (f - 1) t (listed.setIfInBounds i true) && dt md ops n true f e listed
  | alt,_,.nil,_=>alt
theorem fH {n:Nat} {Q:Act→World→Prop} (hQ:∀ a w w',Later w w'→Q a w→Q a w') (hsel:Region.noSelect ops=true)
    (hnt:∀ i,i < n→∀ listed,HeadInv md ops n listed→listed.getD i true=false→∀ j∈Region.ready md ops listed,j < n) :
    ∀ (t:Pl) (f:Nat) (listed:Array Bool) (a:Act) (w:World),HeadInv md ops n listed →
      (dt md ops n false f t listed=true→py P ops Q t a w→ii P md ops n (fun listed' a' w'=>Region.seqB md ops (ops.size - n) n listed'=true∧Q a' w') f listed a w) ∧
      (dt md ops n true f t listed=true→py P ops Q t a w→∀ j∈t.heads,j∈Region.ready md ops listed→0 < f∧j < n∧canOp P ops j (ii P md ops n (fun listed' a' w'=>Region.seqB md ops (ops.size - n) n listed'=true∧Q a' w') (f - 1) (listed.setIfInBounds j true)) a w)
  | .done,f,listed,a,w,_=>⟨fun hB h=>by
      simp only [dt,Bool.and_eq_true,decide_eq_true_eq] at hB
      obtain ⟨⟨_,rfl⟩,hB⟩:=hB
      exact ⟨hB,h⟩,fun hB=>by simp [dt] at hB⟩
  | .flt i t,f,listed,a,w,inv=>⟨fun hB h=>by
      simp only [dt,Bool.and_eq_true,decide_eq_true_eq] at hB
      obtain ⟨⟨⟨⟨⟨_,hf⟩,hin⟩,hr⟩,hfr⟩,hB'⟩:=hB
      obtain ⟨g,rfl⟩:∃ g,f=g+1:=⟨f - 1,by omega⟩
      have hr':i∈Region.ready md ops listed:=by simpa using hr
      unfold py at h
      cases ho:ops[i]? with
      | none=>simp only [ho] at h
      | some o =>
        simp only [ho] at h
        obtain ⟨v,hy,hK⟩:∃ v,cX P ops o v a w∧py P ops Q t (a.put o.dst v) w:=by
          by_cases hw:Region.wanted o (yielded ops a.tmps)=true
          · rw [if_pos hw] at h
            obtain ⟨v,h1,h2⟩:=h
            exact ⟨v,.inl ⟨hw,h1⟩,h2⟩
          · rw [if_neg hw] at h
            exact ⟨undef,.inr ⟨by simpa using hw,rfl⟩,h⟩
        exact lk (fun _ _ _ _ hw hq=>⟨hq.1,hQ _ _ _ hw hq.2⟩) ho (Region.noSelect_spec hsel) (hnt i hin) (fun _ _ _ hL=>seqB_ready hL.1) hin g listed a w inv (Region.free_spec ho hfr) hr' hy
          ((fH hQ hsel hnt t g _ _ _ (inv.set hr' hin)).1 (by simpa using hB') hK),fun hB=>by simp [dt] at hB⟩
  | .gr i t e,f,listed,a,w,inv=>by
      have alt:∀ alt,dt md ops n alt f (.gr i t e) listed=true→py P ops Q (.gr i t e) a w→∀ j∈(Pl.gr i t e).heads,j∈Region.ready md ops listed→0 < f∧j < n∧canOp P ops j (ii P md ops n (fun listed' a' w'=>Region.seqB md ops (ops.size - n) n listed'=true∧Q a' w') (f - 1) (listed.setIfInBounds j true)) a w:=by
        intro alt hB h j hj hjr
        simp only [dt,Bool.and_eq_true,decide_eq_true_eq] at hB
        obtain ⟨⟨⟨⟨_,hf⟩,hin⟩,hB1⟩,hB2⟩:=hB
        unfold py at h
        obtain ⟨h1,h2⟩:=h
        simp only [Pl.heads,List.mem_cons] at hj
        by_cases hji:j=i
        · subst hji
          refine ⟨hf,hin,fun w' hw'=>?_⟩
          cases ho:ops[j]? with
          | none=>simp only [ho] at h1
          | some o =>
            simp only [ho] at h1
            unfold wpOp
            simp only [ho]
            by_cases hw:Region.wanted o (yielded ops a.tmps)=true
            · rw [if_pos hw] at h1 ⊢
              exact .inl (Oper.wp_mono (fun a' w2 hk=>⟨hk.1,(fH hQ hsel hnt t _ _ _ _ (inv.set hjr hin)).1 hB1 hk.2⟩) (h1 w' hw'))
            · rw [if_neg hw] at h1 ⊢
              exact ⟨Later.refl _,eJ (fun _ _ _ _ hw hq=>⟨hq.1,hQ _ _ _ hw hq.2⟩) _ _ _ _ _ hw' ((fH hQ hsel hnt t _ _ _ _ (inv.set hjr hin)).1 hB1 h1)⟩
        · have hj':j∈e.heads:=by rcases hj with h | h; exact absurd h hji; exact h
          exact (fH hQ hsel hnt e f listed a w inv).2 hB2 h2 j hj' hjr
      refine ⟨fun hB h=>?_,alt true⟩
      have hB0:=hB
      simp only [dt,Bool.and_eq_true,decide_eq_true_eq,Bool.false_or] at hB
      obtain ⟨⟨⟨⟨⟨hall,hne⟩,hf⟩,_⟩,_⟩,_⟩:=hB
      obtain ⟨g,rfl⟩:∃ g,f=g+1:=⟨f - 1,by omega⟩
      refine ⟨fun h0=>by rw [h0] at hne; simp at hne,fun j hj=>?_⟩
      have hjh:j∈(Pl.gr i t e).heads:=by simpa using List.all_eq_true.1 hall j hj
      exact (alt false hB0 h j hjh hj).2
  | .nil,f,listed,a,w,_=>⟨fun hB=>by simp [dt] at hB,fun _ _ j hj=>by simp [Pl.heads] at hj⟩
theorem nU {id:Nat} {Q:Exit→Act→World→Prop} {a:Act} {w:World} {l:List Oper} (n:Nat) (t:Pl) (hm:P.follows .mixedOrders=true)
    (hB:(Region.noSelect l.toArray && (decide (n=l.toArray.size) || (decide (n < l.toArray.size) && Region.sinkB .any l.toArray n && Region.chainB .any l.toArray n)) && dt .any l.toArray n false n t (Array.replicate l.toArray.size false))=true)
    (h:py P l.toArray (fun a' w'=>∀ w'',Later w' w''→wpList P l.toArray Q (l.drop n) a' w'') t a w):(Code.region id l.toArray true).wp P Q a w:=by
  simp only [Bool.and_eq_true] at hB
  obtain ⟨⟨hsel,hn⟩,hpl⟩:=hB
  have hnle:n≤l.toArray.size:=by
    rcases Bool.or_eq_true _ _▸hn with hn | hn
    · simp only [decide_eq_true_eq] at hn; omega
    · simp only [Bool.and_eq_true,decide_eq_true_eq] at hn; omega
  have hnt:∀ i,i < n→∀ listed,HeadInv .any l.toArray n listed→listed.getD i true=false→∀ j∈Region.ready .any l.toArray listed,j < n:=by
    intro i hin listed inv hun j hj
    rcases Bool.or_eq_true _ _▸hn with hn | hn
    · simp only [decide_eq_true_eq] at hn
      have:=nF j hj
      omega
    · simp only [Bool.and_eq_true,decide_eq_true_eq] at hn
      obtain ⟨⟨hn,hs⟩,hc⟩:=hn
      rcases Nat.lt_or_ge j n with h | h
      · exact h
      · exact absurd hj (tail_waits hs hc hn inv _ i rfl hin hun j h)
  have inv0:HeadInv .any l.toArray n (Array.replicate l.toArray.size false) :=
    ⟨by simp,fun j oj _ hl=>(by rw [getD_replicate_false] at hl; cases hl),fun t _ ht=>getD_in (by simpa using ht) (getD_replicate_false _ _)⟩
  have H:=(fH (P:=P) (md:=.any) (Q:=fun a' w'=>∀ w'',Later w' w''→wpList P l.toArray Q (l.drop n) a' w'') (fun a w w' hw hq w'' hw''=>hq w'' (hw.trans hw'')) hsel hnt t n _ a w inv0).1 hpl h
  refine wp_region_any hm ?_
  have hdl:(l.drop n).length=l.toArray.size - n:=by simp
  have:=iZ (Q':=Q) (g:=l.toArray.size - n) (fun listed a' w' hL=>by
    have:=wpAny_of_seq (md:=.any) (Q':=Q) (l.drop n) n listed a' w' (fun j=>by simp [List.getElem?_drop]) (by rw [hdl]; exact hL.1) (hL.2 w' (Later.refl _))
    rwa [hdl] at this) _ _ _ _ (eJ (fun _ _ _ _ hw hq=>⟨hq.1,fun w2 h2=>hq.2 w2 (hw.trans h2)⟩) _ _ _ _ _ (Later.drew w) H)
  rw [show n+(l.toArray.size - n)=l.toArray.size by omega] at this
  exact this
end
section
variable {P:Program} {n:Nat} {l:List (Nat×Value)} {own:List (Nat×Obj)} {ro:List au}
theorem rB {id:Nat} {Q:Exit→Act→World→Prop} {lops:List Oper} (m:Nat) (t:Pl) (hm:P.follows .mixedOrders=true)
    (hB:(Region.noSelect lops.toArray && (decide (m=lops.toArray.size) || (decide (m < lops.toArray.size) && Region.sinkB .any lops.toArray m && Region.chainB .any lops.toArray m)) && dt .any lops.toArray m false m t (Array.replicate lops.toArray.size false))=true)
    (h:S (py P lops.toArray (fun a' w'=>∀ w'',Later w' w''→wpList P lops.toArray Q (lops.drop m) a' w'') t) n l own ro):W P (.region id lops.toArray true) Q n l own ro :=
  fun a w ha hw=>nU m t hm hB (h a w ha hw)
variable {ops:Array Oper} {Q:Exit→Act→World→Prop} {K:Act→World→Prop} {i:Nat} {t e:Pl}
theorem t_flt (h:WX P ops Q (py P ops K t) [(some true,i)] n l own ro):S (py P ops K (.flt i t)) n l own ro:=fun a w ha hw=>by
  have h:=h a w ha hw
  unfold py
  simp only [gW] at h
  split <;> rename_i ho <;> simp only [ho] at h
  split <;> rename_i hw'
  · rw [if_pos hw'] at h
    obtain ⟨v,h1,h2⟩:=h
    exact ⟨v,h1,h2 w (Later.refl _)⟩
  · rw [if_neg hw'] at h
    exact h w (Later.refl _)
theorem t_gr (h:WX P ops Q (py P ops K t) [(some false,i)] n l own ro) (he:S (py P ops K e) n l own ro):S (py P ops K (.gr i t e)) n l own ro:=fun a w ha hw=>by
  have h:=h a w ha hw
  unfold py
  refine ⟨?_,he a w ha hw⟩
  simp only [gW] at h
  split <;> rename_i ho <;> simp only [ho] at h
  split <;> rename_i hw'
  · rw [if_pos hw'] at h
    exact fun w2 h2=>Oper.wp_mono (fun a' w' hk=>⟨hk.1,hk.2 w' (Later.refl _)⟩) (h w2 h2)
  · rw [if_neg hw'] at h
    exact h w (Later.refl _)
theorem t_nil:S (py P ops K .nil) n l own ro:=fun _ _ _ _=>trivial
theorem uT {lops:List Oper} {m:Nat} (h:WX P lops.toArray Q (fun a w=>Q .normal a w) (dT m lops.length) n l own ro) :
    S (py P lops.toArray (fun a' w'=>∀ w'',Later w' w''→wpList P lops.toArray Q (lops.drop m) a' w'') .done) n l own ro :=
  fun a w ha hw w2 h2=>dS _ m a w2 rfl (j2 h2 (h a w ha hw))
end
end Go.PK

namespace Go.PK
open Go Go.RowKit
section
variable {P:Program} {ops:Array Oper} {md:Region.Mode} {w0:World}
def canOp0 (P:Program) (ops:Array Oper) (w0:World) (i:Nat) (K:Act→World→Prop) (a:Act) (w:World):Prop :=
  ∀ w',Later w w'→Later w0 w'→wpOp P ops (fun _ _ _=>False) i (fun a'' w''=>Later w0 w''∧K a'' w'') a w'
def j5 (P:Program) (ops:Array Oper) (w0:World) (o:Oper) (v:Value) (a:Act):Prop :=
  (Region.wanted o (yielded ops a.tmps)=true∧∀ w',Later w0 w'→fU P o a w' v)∨(Region.wanted o (yielded ops a.tmps)=false∧v=undef)
theorem j5.of_same {o:Oper} {v:Value} {a a':Act} (hy:j5 P ops w0 o v a) (he:execOp a'.eval o=execOp a.eval o)
    (hw:Region.wanted o (yielded ops a'.tmps)=Region.wanted o (yielded ops a.tmps)):j5 P ops w0 o v a':=by
  unfold j5 fU at *
  rw [he,hw]
  exact hy
theorem j5.canOp {i:Nat} {o:Oper} {v:Value} {a:Act} {w:World} (hi:ops[i]?=some o) (hy:j5 P ops w0 o v a) {K:Act→World→Prop}
    (h:∀ w',Later w w'→K (a.put o.dst v) w'):canOp0 P ops w0 i K a w:=by
  intro w' hw' h0
  unfold Go.wpOp
  simp only [hi]
  rcases hy with ⟨hw,hv⟩ | ⟨hw,rfl⟩
  · rw [if_pos hw]
    refine .inl ?_
    have h3:=hv w' h0
    unfold fU at h3
    unfold Oper.wp
    generalize (execOp a.eval o).run P w'=r at *
    cases r with
    | ok n w1 =>
      cases n <;> simp only [iY] at h3 <;> simp only [Oper.upon]
      case value u=>obtain ⟨rfl,rfl⟩:=h3; exact ⟨h0,h _ hw'⟩
      case skip=>obtain ⟨rfl,rfl⟩:=h3; exact ⟨h0,h _ hw'⟩
      case enter f args =>
        obtain ⟨rfl,hc⟩:=h3
        exact hc.mono fun e w2 ⟨he,hl⟩=>by subst he; exact ⟨h0.trans hl,h _ (hw'.trans hl)⟩
    | halt x w1=>simp only [iY] at h3
  · rw [if_neg (by rw [hw]; exact Bool.false_ne_true)]
    exact ⟨h0,h _ hw'⟩
end
section
variable {P:Program} {n:Nat} {l:List (Nat×Value)} {own:List (Nat×Obj)} {ro:List au}
theorem Mem.frozen {w:World} (h:Mem w own ro):Mem w [] ((w,fun _=>True)::ro) where
  own_at:=fun p hp=>by cases hp
  own_nd:=by simp
  ro_st:=fun s hs=>by
    rcases List.mem_cons.1 hs with rfl | hs
    · exact ⟨rfl,rfl,rfl,Nat.le_refl _⟩
    · exact h.ro_st s hs
  ro_at:=fun s hs k hk hlt=>by
    rcases List.mem_cons.1 hs with rfl | hs
    · rfl
    · exact h.ro_at s hs k hk hlt
  apart:=fun p hp=>by cases hp
variable {ops:Array Oper} {Q:Exit→Act→World→Prop} {K:Act→World→Prop} {i:Nat} {t e:Pl} {w0:World}
end
end Go.PK

namespace Go.PK
open Go Go.RowKit
section
variable {P:Program} {ops:Array Oper} {md:Region.Mode} {oF:List (Nat×Obj)} {rF:List au}
def im (P:Program) (ops:Array Oper) (oF:List (Nat×Obj)) (rF:List au) (i:Nat) (K:Act→World→Prop) (a:Act) (w:World):Prop :=
  ∀ w',Later w w'→Mem w' oF rF→wpOp P ops (fun _ _ _=>False) i (fun a'' w''=>Mem w'' oF rF∧K a'' w'') a w'
theorem tf {i:Nat} {a:Act} {w:World} {K K':Act→World→Prop} (h:∀ a w,K a w→K' a w) (hh:im P ops oF rF i K a w):im P ops oF rF i K' a w :=
  fun w' hw h0=>wpOp_mono (fun _ _ hk=>⟨hk.1,h _ _ hk.2⟩) (hh w' hw h0)
theorem rC {i:Nat} {a:Act} {w w1:World} {K:Act→World→Prop} (hw:Later w w1) (hh:im P ops oF rF i K a w):im P ops oF rF i K a w1 :=
  fun w' hw' h0=>hh w' (hw.trans hw') h0
def jg (P:Program) (md:Region.Mode) (ops:Array Oper) (oF:List (Nat×Obj)) (rF:List au) (n:Nat) (L:Array Bool→Act→World→Prop):Nat→Array Bool→Act→World→Prop
  | 0,listed,a,w=>L listed a w
  | f+1,listed,a,w=>Region.ready md ops listed≠[]∧∀ i∈Region.ready md ops listed,i < n∧im P ops oF rF i (jg P md ops oF rF n L f (listed.setIfInBounds i true)) a w
theorem jh {n:Nat} {L:Array Bool→Act→World→Prop} (hL:gX L):∀ (f:Nat) (listed:Array Bool) (a:Act) (w w':World),Later w w' →
    jg P md ops oF rF n L f listed a w→jg P md ops oF rF n L f listed a w'
  | 0,_,_,_,_,h,hh=>hL _ _ _ _ h hh
  | _+1,_,_,_,_,h,hh=>⟨hh.1,fun i hi=>⟨(hh.2 i hi).1,rC h (hh.2 i hi).2⟩⟩
theorem kC {n g:Nat} {L:Array Bool→Act→World→Prop} {Q':Exit→Act→World→Prop} (hL:∀ listed a w,Mem w oF rF→L listed a w→wpAny P md ops Q' g listed a w) :
    ∀ (f:Nat) (listed:Array Bool) (a:Act) (w:World),Mem w oF rF→jg P md ops oF rF n L f listed a w→wpAny P md ops Q' (f+g) listed a w
  | 0,listed,a,w,h0,h=>by rw [Nat.zero_add]; exact hL _ _ _ h0 h
  | f+1,listed,a,w,h0,h=>by
    rw [show f+1+g=(f+g)+1 by omega]
    refine ⟨fun he=>absurd he h.1,fun i hi=>?_⟩
    have h1:=(h.2 i hi).2 w (Later.refl w) h0
    have h2:wpOp P ops (fun _ _ _=>False) i (wpAny P md ops Q' (f+g) (listed.setIfInBounds i true)) a w :=
      wpOp_mono (fun a' w' h'=>kC hL f _ a' w' h'.1 h'.2) h1
    unfold wpOp at h2 ⊢
    split
    · rename_i ho; simp only [ho] at h2; exact h2
    · rename_i o ho
      simp only [ho] at h2
      split
      · rename_i hw
        simp only [hw,if_true] at h2
        rcases h2 with h2 | ⟨_,_,_,h2⟩
        · refine .inl ?_
          unfold Oper.wp at h2 ⊢
          generalize (execOp a.eval o).run P w=r at *
          cases r with
          | ok x w' =>
            cases x <;> simp only [Oper.upon] at h2 ⊢ <;> first
              | exact h2
              | (refine Calls.mono h2 fun e w'' he=>?_
                 cases e with
                 | returned u=>exact he
                 | panicked c=>exact he.elim
                 | outgrown=>obtain ⟨_,_,hf⟩:=he; exact hf.elim)
          | halt x w'=>cases x <;> simp only [Oper.upon] at h2 ⊢
        · exact h2.elim
      · rename_i hw
        simp only [hw] at h2
        exact h2
def dY (P:Program) (ops:Array Oper) (oF:List (Nat×Obj)) (rF:List au) (o:Oper) (v:Value) (a:Act):Prop :=
  (Region.wanted o (yielded ops a.tmps)=true∧∀ w',Mem w' oF rF→fU P o a w' v)∨(Region.wanted o (yielded ops a.tmps)=false∧v=undef)
theorem dY.of_same {o:Oper} {v:Value} {a a':Act} (hy:dY P ops oF rF o v a) (he:execOp a'.eval o=execOp a.eval o)
    (hw:Region.wanted o (yielded ops a'.tmps)=Region.wanted o (yielded ops a.tmps)):dY P ops oF rF o v a':=by
  unfold dY fU at *
  rw [he,hw]
  exact hy
theorem dY.canOp {i:Nat} {o:Oper} {v:Value} {a:Act} {w:World} (hi:ops[i]?=some o) (hy:dY P ops oF rF o v a) {K:Act→World→Prop}
    (h:∀ w',Later w w'→K (a.put o.dst v) w'):im P ops oF rF i K a w:=by
  intro w' hw' h0
  unfold Go.wpOp
  simp only [hi]
  rcases hy with ⟨hw,hv⟩ | ⟨hw,rfl⟩
  · rw [if_pos hw]
    refine .inl ?_
    have h3:=hv w' h0
    unfold fU at h3
    unfold Oper.wp
    generalize (execOp a.eval o).run P w'=r at *
    cases r with
    | ok n w1 =>
      cases n <;> simp only [iY] at h3 <;> simp only [Oper.upon]
      case value u=>obtain ⟨rfl,rfl⟩:=h3; exact ⟨h0,h _ hw'⟩
      case skip=>obtain ⟨rfl,rfl⟩:=h3; exact ⟨h0,h _ hw'⟩
      case enter f args =>
        obtain ⟨rfl,hc⟩:=h3
        exact hc.mono fun e w2 ⟨he,hl⟩=>by subst he; exact ⟨Mem.later h0 hl,h _ (hw'.trans hl)⟩
    | halt x w1=>simp only [iY] at h3
  · rw [if_neg (by rw [hw]; exact Bool.false_ne_true)]
    exact ⟨h0,h _ hw'⟩
theorem uU {j:Nat} {oi oj:Oper} {v:Value} (hj:ops[j]?=some oj) (hap:oi.apart ops oj=true)
    (hsi:∀ cs b,oi.op≠.select cs b) (hsj:∀ cs b,oj.op≠.select cs b) {K:Act→World→Prop} {a:Act} {w:World}
    (hy:dY P ops oF rF oi v a) (h:im P ops oF rF j K (a.put oi.dst v) w) :
    im P ops oF rF j (fun a' w'=>dY P ops oF rF oi v a'∧K (a'.put oi.dst v) w') a w:=by
  obtain ⟨h1,h2,h3⟩:=Oper.apart_spec hap
  intro w' hw' h0
  have keep:∀ (a:Act),dY P ops oF rF oi v a→∀ u,dY P ops oF rF oi v (a.put oj.dst u):=fun a hy u =>
    hy.of_same (execOp_put oi hsi a oj.dst u h3) (wanted_put oi a oj.dst u h3)
  have keepD:∀ d,dY P ops oF rF oi v { a with defers:=d::a.defers }:=fun d=>hy.of_same rfl rfl
  have h:=h w' hw' h0
  unfold Go.wpOp at *
  simp only [hj] at *
  rw [wanted_put oj a oi.dst v h1] at h
  split
  · rename_i hw
    simp only [hw,if_true] at h
    rcases h with h | ⟨hasks,_,_,hlets⟩
    case inr=>exact hlets.elim
    refine .inl ?_
    unfold Oper.wp at *
    rw [execOp_put oj hsj a oi.dst v h1] at h
    generalize (execOp a.eval oj).run P w'=r at *
    cases r with
    | ok n w1 =>
      cases n <;> simp only [Oper.upon] at h ⊢
      case value u=>exact ⟨h.1,keep a hy u,by rw [← Act.put_comm a v u h2]; exact h.2⟩
      case skip=>exact ⟨h.1,keep a hy _,by rw [← Act.put_comm a v undef h2]; exact h.2⟩
      case defer d =>
        refine ⟨h.1,keep _ (keepD d) _,?_⟩
        rw [← Act.put_comm _ v undef h2,← Act.put_defers]
        exact h.2
      case enter f args =>
        refine Calls.mono h fun e w2 he=>?_
        cases e with
        | returned u=>exact ⟨he.1,keep a hy u,by rw [← Act.put_comm a v u h2]; exact he.2⟩
        | panicked c=>exact he
        | outgrown=>exact he
      case row row args=>exact Rows.mono h fun u w2 he=>⟨he.1,keep a hy u,by rw [← Act.put_comm a v u h2]; exact he.2⟩
    | halt x w1 =>
      cases x <;> simp only [Oper.upon] at h ⊢
  · rename_i hw
    simp only [hw] at h
    exact ⟨h.1,keep a hy _,by rw [← Act.put_comm a v undef h2]; exact h.2⟩
theorem rD {n i:Nat} {oi:Oper} {v:Value} {L:Array Bool→Act→World→Prop} (hL:gX L) (hi:ops[i]?=some oi) (hsel:∀ (j:Nat) (o:Oper) cs b,ops[j]?=some o→o.op≠.select cs b)
    (hnt:∀ listed,HeadInv md ops n listed→listed.getD i true=false→∀ j∈Region.ready md ops listed,j < n)
    (hdone:∀ listed a w,L listed a w→∀ j∈Region.ready md ops listed,n≤j) (hin:i < n) :
    ∀ (f:Nat) (listed:Array Bool) (a:Act) (w:World),HeadInv md ops n listed →
      (∀ j oj,ops[j]?=some oj→j≠i→listed.getD j true=false→(∀ e∈oj.after,Region.binds md e=true→e.on≠i)→oi.apart ops oj=true) →
      i∈Region.ready md ops listed→dY P ops oF rF oi v a →
      jg P md ops oF rF n L f (listed.setIfInBounds i true) (a.put oi.dst v) w→jg P md ops oF rF n L (f+1) listed a w:=by
  intro f
  induction f with
  | zero =>
    intro listed a w inv _ hr hy H
    have hun:=(mem_ready.1 hr).1
    refine ⟨fun h=>(by rw [h] at hr; cases hr),fun j hj=>?_⟩
    have hjn:=hnt listed inv hun j hj
    refine ⟨hjn,?_⟩
    by_cases hji:j=i
    · subst hji; exact hy.canOp hi fun w' hw'=>hL _ _ _ _ hw' H
    · have:=hdone _ _ _ H j (ready_mono hj hji)
      omega
  | succ f ih =>
    intro listed a w inv hfree hr hy H
    have hun:=(mem_ready.1 hr).1
    refine ⟨fun h=>(by rw [h] at hr; cases hr),fun j hj=>?_⟩
    have hjn:=hnt listed inv hun j hj
    refine ⟨hjn,?_⟩
    by_cases hji:j=i
    · subst hji; exact hy.canOp hi fun w' hw'=>jh hL _ _ _ _ _ hw' H
    · have h1:=(H.2 j (ready_mono hj hji)).2
      obtain ⟨hjun,oj,hoj,hall⟩:=mem_ready.1 hj
      have hnot:∀ e∈oj.after,Region.binds md e=true→e.on≠i:=fun e he hb heq=>by
        have h1:=hall e he hb
        rw [heq,getD_both hun] at h1
        cases h1
      have h2:=uU hoj (hfree j oj hoj hji hjun hnot) (fun cs b=>hsel i oi cs b hi) (fun cs b=>hsel j oj cs b hoj) hy h1
      have hfree':∀ k ok,ops[k]?=some ok→k≠i→(listed.setIfInBounds j true).getD k true=false →
          (∀ e∈ok.after,Region.binds md e=true→e.on≠i)→oi.apart ops ok=true:=fun k ok hk hki hun hno=>by
        refine hfree k ok hk hki ?_ hno
        by_cases hjk:j=k
        · subst hjk; exact hjun
        · rw [getD_set_ne true hjk] at hun; exact hun
      refine tf (fun a' w' h3=>ih (listed.setIfInBounds j true) a' w' (inv.set hj hjn) hfree' (ready_mono hr (Ne.symm hji)) h3.1 ?_) h2
      rw [Array.setIfInBounds_comm _ _ hji]
      exact h3.2
def gk (P:Program) (ops:Array Oper) (oF:List (Nat×Obj)) (rF:List au) (K:Act→World→Prop):Pl→Act→World→Prop
  | .done,a,w=>K a w
  | .flt i t,a,w=>match ops[i]? with
    | none=>False
    | some o=>if Region.wanted o (yielded ops a.tmps) then ∃ v,(∀ w',Mem w' oF rF→fU P o a w' v)∧gk P ops oF rF K t (a.put o.dst v) w else gk P ops oF rF K t (a.put o.dst undef) w
  | .gr i t e,a,w=>(match ops[i]? with
    | none=>False
    | some o=>if Region.wanted o (yielded ops a.tmps) then ∀ w',Later w w'→o.wp P a w' (fun a'' w''=>Mem w'' oF rF∧gk P ops oF rF K t a'' w'') (fun _ _ _=>False) else gk P ops oF rF K t (a.put o.dst undef) w)∧gk P ops oF rF K e a w
  | .nil,_,_=>True
theorem fJ {n:Nat} {Q:Act→World→Prop} (hQ:∀ a w w',Later w w'→Q a w→Q a w') (hsel:Region.noSelect ops=true)
    (hnt:∀ i,i < n→∀ listed,HeadInv md ops n listed→listed.getD i true=false→∀ j∈Region.ready md ops listed,j < n) :
    ∀ (t:Pl) (f:Nat) (listed:Array Bool) (a:Act) (w:World),HeadInv md ops n listed →
      (dt md ops n false f t listed=true→gk P ops oF rF Q t a w→jg P md ops oF rF n (fun listed' a' w'=>Region.seqB md ops (ops.size - n) n listed'=true∧Q a' w') f listed a w) ∧
      (dt md ops n true f t listed=true→gk P ops oF rF Q t a w→∀ j∈t.heads,j∈Region.ready md ops listed→0 < f∧j < n∧im P ops oF rF j (jg P md ops oF rF n (fun listed' a' w'=>Region.seqB md ops (ops.size - n) n listed'=true∧Q a' w') (f - 1) (listed.setIfInBounds j true)) a w)
  | .done,f,listed,a,w,_=>⟨fun hB h=>by
      simp only [dt,Bool.and_eq_true,decide_eq_true_eq] at hB
      obtain ⟨⟨_,rfl⟩,hB⟩:=hB
      exact ⟨hB,h⟩,fun hB=>by simp [dt] at hB⟩
  | .flt i t,f,listed,a,w,inv=>⟨fun hB h=>by
      simp only [dt,Bool.and_eq_true,decide_eq_true_eq] at hB
      obtain ⟨⟨⟨⟨⟨_,hf⟩,hin⟩,hr⟩,hfr⟩,hB'⟩:=hB
      obtain ⟨g,rfl⟩:∃ g,f=g+1:=⟨f - 1,by omega⟩
      have hr':i∈Region.ready md ops listed:=by simpa using hr
      unfold gk at h
      cases ho:ops[i]? with
      | none=>simp only [ho] at h
      | some o =>
        simp only [ho] at h
        obtain ⟨v,hy,hK⟩:∃ v,dY P ops oF rF o v a∧gk P ops oF rF Q t (a.put o.dst v) w:=by
          by_cases hw:Region.wanted o (yielded ops a.tmps)=true
          · rw [if_pos hw] at h
            obtain ⟨v,h1,h2⟩:=h
            exact ⟨v,.inl ⟨hw,h1⟩,h2⟩
          · rw [if_neg hw] at h
            exact ⟨undef,.inr ⟨by simpa using hw,rfl⟩,h⟩
        exact rD (fun _ _ _ _ hw hq=>⟨hq.1,hQ _ _ _ hw hq.2⟩) ho (Region.noSelect_spec hsel) (hnt i hin) (fun _ _ _ hL=>seqB_ready hL.1) hin g listed a w inv (Region.free_spec ho hfr) hr' hy
          ((fJ hQ hsel hnt t g _ _ _ (inv.set hr' hin)).1 (by simpa using hB') hK),fun hB=>by simp [dt] at hB⟩
  | .gr i t e,f,listed,a,w,inv=>by
      have alt:∀ alt,dt md ops n alt f (.gr i t e) listed=true→gk P ops oF rF Q (.gr i t e) a w→∀ j∈(Pl.gr i t e).heads,j∈Region.ready md ops listed→0 < f∧j < n∧im P ops oF rF j (jg P md ops oF rF n (fun listed' a' w'=>Region.seqB md ops (ops.size - n) n listed'=true∧Q a' w') (f - 1) (listed.setIfInBounds j true)) a w:=by
        intro alt hB h j hj hjr
        simp only [dt,Bool.and_eq_true,decide_eq_true_eq] at hB
        obtain ⟨⟨⟨⟨_,hf⟩,hin⟩,hB1⟩,hB2⟩:=hB
        unfold gk at h
        obtain ⟨h1,h2⟩:=h
        simp only [Pl.heads,List.mem_cons] at hj
        by_cases hji:j=i
        · subst hji
          refine ⟨hf,hin,fun w' hw' h0=>?_⟩
          cases ho:ops[j]? with
          | none=>simp only [ho] at h1
          | some o =>
            simp only [ho] at h1
            unfold wpOp
            simp only [ho]
            by_cases hw:Region.wanted o (yielded ops a.tmps)=true
            · rw [if_pos hw] at h1 ⊢
              exact .inl (Oper.wp_mono (fun a' w2 hk=>⟨hk.1,(fJ hQ hsel hnt t _ _ _ _ (inv.set hjr hin)).1 hB1 hk.2⟩) (h1 w' hw'))
            · rw [if_neg hw] at h1 ⊢
              exact ⟨h0,jh (fun _ _ _ _ hw hq=>⟨hq.1,hQ _ _ _ hw hq.2⟩) _ _ _ _ _ hw' ((fJ hQ hsel hnt t _ _ _ _ (inv.set hjr hin)).1 hB1 h1)⟩
        · have hj':j∈e.heads:=by rcases hj with h | h; exact absurd h hji; exact h
          exact (fJ hQ hsel hnt e f listed a w inv).2 hB2 h2 j hj' hjr
      refine ⟨fun hB h=>?_,alt true⟩
      have hB0:=hB
      simp only [dt,Bool.and_eq_true,decide_eq_true_eq,Bool.false_or] at hB
      obtain ⟨⟨⟨⟨⟨hall,hne⟩,hf⟩,_⟩,_⟩,_⟩:=hB
      obtain ⟨g,rfl⟩:∃ g,f=g+1:=⟨f - 1,by omega⟩
      refine ⟨fun h0=>by rw [h0] at hne; simp at hne,fun j hj=>?_⟩
      have hjh:j∈(Pl.gr i t e).heads:=by simpa using List.all_eq_true.1 hall j hj
      exact (alt false hB0 h j hjh hj).2
  | .nil,f,listed,a,w,_=>⟨fun hB=>by simp [dt] at hB,fun _ _ j hj=>by simp [Pl.heads] at hj⟩
theorem pK {id:Nat} {Q:Exit→Act→World→Prop} {a:Act} {w:World} {l:List Oper} (n:Nat) (t:Pl) (hm:P.follows .mixedOrders=true)
    (hB:(Region.noSelect l.toArray && (decide (n=l.toArray.size) || (decide (n < l.toArray.size) && Region.sinkB .any l.toArray n && Region.chainB .any l.toArray n)) && dt .any l.toArray n false n t (Array.replicate l.toArray.size false))=true)
    (hw:Mem w oF rF) (h:gk P l.toArray oF rF (fun a' w'=>∀ w'',Later w' w''→wpList P l.toArray Q (l.drop n) a' w'') t a w):(Code.region id l.toArray true).wp P Q a w:=by
  simp only [Bool.and_eq_true] at hB
  obtain ⟨⟨hsel,hn⟩,hpl⟩:=hB
  have hnle:n≤l.toArray.size:=by
    rcases Bool.or_eq_true _ _▸hn with hn | hn
    · simp only [decide_eq_true_eq] at hn; omega
    · simp only [Bool.and_eq_true,decide_eq_true_eq] at hn; omega
  have hnt:∀ i,i < n→∀ listed,HeadInv .any l.toArray n listed→listed.getD i true=false→∀ j∈Region.ready .any l.toArray listed,j < n:=by
    intro i hin listed inv hun j hj
    rcases Bool.or_eq_true _ _▸hn with hn | hn
    · simp only [decide_eq_true_eq] at hn
      have:=nF j hj
      omega
    · simp only [Bool.and_eq_true,decide_eq_true_eq] at hn
      obtain ⟨⟨hn,hs⟩,hc⟩:=hn
      rcases Nat.lt_or_ge j n with h | h
      · exact h
      · exact absurd hj (tail_waits hs hc hn inv _ i rfl hin hun j h)
  have inv0:HeadInv .any l.toArray n (Array.replicate l.toArray.size false) :=
    ⟨by simp,fun j oj _ hl=>(by rw [getD_replicate_false] at hl; cases hl),fun t _ ht=>getD_in (by simpa using ht) (getD_replicate_false _ _)⟩
  have H:=(fJ (P:=P) (md:=.any) (oF:=oF) (rF:=rF) (Q:=fun a' w'=>∀ w'',Later w' w''→wpList P l.toArray Q (l.drop n) a' w'') (fun a w w' hw hq w'' hw''=>hq w'' (hw.trans hw'')) hsel hnt t n _ a w inv0).1 hpl h
  refine wp_region_any hm ?_
  have hdl:(l.drop n).length=l.toArray.size - n:=by simp
  have:=kC (Q':=Q) (g:=l.toArray.size - n) (oF:=oF) (rF:=rF) (fun listed a' w' _ hL=>by
    have:=wpAny_of_seq (md:=.any) (Q':=Q) (l.drop n) n listed a' w' (fun j=>by simp [List.getElem?_drop]) (by rw [hdl]; exact hL.1) (hL.2 w' (Later.refl _))
    rwa [hdl] at this) _ _ _ _ (hw.later (Later.drew w)) (jh (fun _ _ _ _ hw hq=>⟨hq.1,fun w2 h2=>hq.2 w2 (hw.trans h2)⟩) _ _ _ _ _ (Later.drew w) H)
  rw [show n+(l.toArray.size - n)=l.toArray.size by omega] at this
  exact this
end
section
variable {P:Program} {n:Nat} {l:List (Nat×Value)} {own oF:List (Nat×Obj)} {ro:List au} {lops:List Oper} {Q:Exit→Act→World→Prop} {K:Act→World→Prop} {i d:Nat} {t e:Pl} {op:Op} {ty:TypeId} {pos:String} {af:Array Edge}
theorem cH {id:Nat} {Q:Exit→Act→World→Prop} (oF:List (Nat×Obj)) (m:Nat) (t:Pl) (hsub:oF.Sublist own) (hm:P.follows .mixedOrders=true)
    (hB:(Region.noSelect lops.toArray && (decide (m=lops.toArray.size) || (decide (m < lops.toArray.size) && Region.sinkB .any lops.toArray m && Region.chainB .any lops.toArray m)) && dt .any lops.toArray m false m t (Array.replicate lops.toArray.size false))=true)
    (h:S (gk P lops.toArray oF ro (fun a' w'=>∀ w'',Later w' w''→wpList P lops.toArray Q (lops.drop m) a' w'') t) n l own ro):W P (.region id lops.toArray true) Q n l own ro :=
  fun a w ha hw=>pK m t hm hB (hw.less hsub (fun _ h=>h)) (h a w ha hw)
theorem j_run {o:Oper} (ho:lops[i]?=some o) (hgo:Go_ lops n l o) (hd0:o.dst=some d) (hd:decide (d < n)=true) {v:Value} (hv:cv P n l oF ro o.op o.type v)
    (h:S (gk P lops.toArray oF ro K t) n ((d,v)::l) own ro):S (gk P lops.toArray oF ro K (.flt i t)) n l own ro:=fun a w ha hw=>by
  have hd':d < n:=of_decide_eq_true hd
  unfold gk
  simp only [List.getElem?_toArray,ho]
  rw [if_pos (hgo a ha)]
  refine ⟨v,fun w' hw'=>?_,by rw [hd0]; exact h _ w (ha.put v hd') hw⟩
  unfold fU
  rw [hv a w' _ ha hw' rfl rfl]
  exact ⟨rfl,rfl⟩
theorem du (ho:lops[i]?=some ⟨some d,op,ty,pos,af,none⟩) (hd:decide (d < n)=true) {v:Value} (hv:cv P n l oF ro op ty v)
    (h:S (gk P lops.toArray oF ro K t) n ((d,v)::l) own ro):S (gk P lops.toArray oF ro K (.flt i t)) n l own ro:=j_run ho (bS rfl) rfl hd hv h
theorem uV (ho:lops[i]?=some ⟨some d,op,ty,pos,af,none⟩) (hd:decide (d < n)=true) {b:Bool} (hv:cv P n l oF ro op ty (.bool b))
    (h:∀ c,c=b→S (gk P lops.toArray oF ro K t) n ((d,.bool c)::l) own ro):S (gk P lops.toArray oF ro K (.flt i t)) n l own ro:=du ho hd hv (h b rfl)
theorem lD {f:FuncId} {fn:Func} {xs:Array Operand} {tys:Array TypeId} {vs:List Value} (ho:lops[i]?=some ⟨some d,.call ⟨.value (.func f),xs,tys⟩,ty,pos,af,none⟩) (hd:decide (d < n)=true)
    (hf:P.funcs[f]?=some fn) (hbody:(!(fn.name == "runtime.NumGoroutine") && fn.body.isSome)=true) (hx:ll l xs.toList=some vs) {v:Value}
    (hc:∀ w,Mem w oF ro→Calls P f vs.toArray w fun e w'=>e=.returned v∧Later w w')
    (h:S (gk P lops.toArray oF ro K t) n ((d,v)::l) own ro):S (gk P lops.toArray oF ro K (.flt i t)) n l own ro:=fun a w ha hw=>by
  have hd':d < n:=of_decide_eq_true hd
  unfold gk
  simp only [List.getElem?_toArray,ho]
  rw [if_pos (bS (lops:=lops) (n:=n) (l:=l) (o:=⟨some d,.call ⟨.value (.func f),xs,tys⟩,ty,pos,af,none⟩) rfl a ha)]
  refine ⟨v,fun w' hw'=>?_,h _ w (ha.put v hd') hw⟩
  unfold fU
  rw [dJ (c:=.func f) (fst:=#[]) (cap:=#[]) rfl ha rfl hf hbody hx]
  have:=hc w' hw'
  exact ⟨rfl,by simpa using this⟩
theorem j_gr (h:WX P lops.toArray (fun _ _ _=>False) (fun a w=>Mem w oF ro∧gk P lops.toArray oF ro K t a w) [(none,i)] n l own ro) (he:S (gk P lops.toArray oF ro K e) n l own ro):S (gk P lops.toArray oF ro K (.gr i t e)) n l own ro:=fun a w ha hw=>by
  have h:=h a w ha hw
  unfold gk
  refine ⟨?_,he a w ha hw⟩
  simp only [gW] at h
  split <;> rename_i ho <;> simp only [ho] at h
  split <;> rename_i hw'
  · intro w2 h2
    have h:=h w2 h2
    rw [if_pos hw'] at h
    exact Oper.wp_mono (fun a' w' hk=>hk w' (Later.refl _)) h
  · have h:=h w (Later.refl _)
    rw [if_neg hw'] at h
    exact (h w (Later.refl _)).2
theorem dG (hsub:oF.Sublist own) (h:S (gk P lops.toArray oF ro K t) n l own ro):S (fun a w=>Mem w oF ro∧gk P lops.toArray oF ro K t a w) n l own ro:=fun a w ha hw=>⟨hw.less hsub (fun _ h=>h),h a w ha hw⟩
theorem j_nil:S (gk P lops.toArray oF ro K .nil) n l own ro:=fun _ _ _ _=>trivial
theorem j_done {m:Nat} (h:WX P lops.toArray Q (fun a w=>Q .normal a w) (dT m lops.length) n l own ro) :
    S (gk P lops.toArray oF ro (fun a' w'=>∀ w'',Later w' w''→wpList P lops.toArray Q (lops.drop m) a' w'') .done) n l own ro :=
  fun a w ha hw w2 h2=>dS _ m a w2 rfl (j2 h2 (h a w ha hw))
end
end Go.PK

namespace Go.PK
open Go Go.RowKit
class Un (P:Program) (t:TypeId) (d:outParam TypeDesc):Prop where h:P.underlying t=some d
class Sz (P:Program) (t:TypeId) (m:outParam Nat):Prop where h:(P.info? t).map (·.size)=some m
class Zr_ (P:Program) (t:TypeId) (z:outParam Value):Prop where h:(P.info? t).bind (·.zero)=some z
abbrev fO {P:Program} {t:TypeId} {d:TypeDesc} (_:P.underlying t=some d):Prop:=Un P t d
abbrev j6 {P:Program} {t:TypeId} {m:Nat} (_:(P.info? t).map (·.size)=some m):Prop:=Sz P t m
abbrev mh {P:Program} {t:TypeId} {z:Value} (_:(P.info? t).bind (·.zero)=some z):Prop:=Zr_ P t z
section
variable {P:Program} {n:Nat} {l:List (Nat×Value)} {own:List (Nat×Obj)} {ro:List au} {ty t:TypeId} {x:Operand}
theorem eN {fs:Array Field} {f:Field} {j m b off off':Nat} (ht:P.underlying t=some (.struct fs)) (hf:fs.toList[j]?=some f) (hs:(P.info? f.type).map (·.size)=some m) (hm:m≠0) (hx:ev l x=some (.pointer (some ⟨b,off,none⟩))) (ho':off+f.offset=off') :
    cv P n l own ro (.fieldAddr t x j) ty (.pointer (some ⟨b,off',none⟩)):=jH ht (by simpa using hf) hs hm hx ho'
theorem mP {td:TypeDesc} {b m:Nat} {cs:Array Value} {e:TypeId} {fz:Nat×Nat} (ht:P.underlying t=some td) (hd:jy td=true) (hx:ev l x=some (.pointer (some ⟨b,0,none⟩))) (hs:(P.info? t).map (·.size)=some m) (hb:(b,Obj.cells (Value.agg cs).cells e fz)∈own) (hm:cs.size=m) :
    cv P n l own ro (.load t x) ty (.agg cs):=bQ ht hd hx hb (by rw [hm]; exact hs)
end
theorem Zw {P:Program} {n:Nat} {l l':List (Nat×Value)} {own own':List (Nat×Obj)} {ro ro':List au} {c:Code} {Q:Exit→Act→World→Prop} (h:W P c Q n l' own' ro') (e1:l=l':=by first | (dsimp only; done) | (dsimp only; exact rfl) | exact rfl) (e2:own=own':=by first | (dsimp only; done) | (dsimp only; exact rfl) | exact rfl) (e3:ro=ro':=by first | (dsimp only; done) | (dsimp only; exact rfl) | exact rfl):W P c Q n l own ro:=by rw [e1,e2,e3]; exact h
theorem Atl {p:Prop} (h:p:=by first | exact ab (.head _) rfl | exact ab (.tail _ (.head _)) rfl | exact ab (.tail _ (.tail _ (.head _))) rfl | exact ab (.tail _ (.tail _ (.tail _ (.head _)))) rfl | (apply ab; ((repeat (first | exact List.Mem.head _ | apply List.Mem.tail | apply List.mem_append_right))); rfl)):p:=h
theorem Lbm {p:Prop} (h:p:=by (first | exact .head _ | exact .tail _ (.head _) | exact .tail _ (.tail _ (.head _)) | exact .tail _ (.tail _ (.tail _ (.head _))) | (repeat (first | exact List.Mem.head _ | apply List.Mem.tail | apply List.mem_append_right)))):p:=h
structure Bx (c:List Nat) (q:Prop):Prop where v:q
theorem bM {c:List Nat} {x:Bool} {Q:∀ b,b=x→Prop} {G:Bool→Prop} (h:Bx c (∀ b (hb:b=x),Q b hb)) (k:∀ b (hb:b=x),Bx c (Q b hb)→G b):∀ b,b=x→G b:=fun b hb=>k b hb ⟨h.v b hb⟩
theorem pM {c:List Nat} {Q G:Nat→Prop} (h:Bx c (∀ b,Q b)) (k:∀ b,Bx c (Q b)→G b):∀ b,G b:=fun b=>k b ⟨h.v b⟩
theorem w_condR {P:Program} {n:Nat} {l:List (Nat×Value)} {own:List (Nat×Obj)} {ro:List au} {Q:Exit→Act→World→Prop} {c:Operand} {x y:Code} {t:Bool} (hc:ev l c=some (.bool t)) (h:(t=true→W P x Q n l own ro)∧(t=false→W P y Q n l own ro)):W P (.cond c x y) Q n l own ro:=rh hc h.1 h.2
theorem w_condS {P:Program} {n:Nat} {l:List (Nat×Value)} {own:List (Nat×Obj)} {ro:List au} {Q:Exit→Act→World→Prop} {c:Operand} {x y:Code} {t:Bool} {A B:Prop} (hc:ev l c=some (.bool t)) (e1:t=true→A) (e2:t=false→B) (h:(A→W P x Q n l own ro)∧(B→W P y Q n l own ro)):W P (.cond c x y) Q n l own ro:=rh hc (fun k=>h.1 (e1 k)) fun k=>h.2 (e2 k)
theorem dN (n:Nat) {c:List Nat} {q:Prop} (h:Bx (n::c) q):Bx c q:=⟨h.v⟩
theorem Rn (c:List Nat) {p q:Prop} (h:q) (e:Bx c q→p:=by
    intro h
    have s:=Qz
    repeat (first
    | (replace h:=dN 0 h; refine Xm ?_)
    | (replace h:=dN 1 h; refine Xa ?_)
    | (replace h:=dN 2 h; refine Ze (Zt ?_))
    | (replace h:=dN 3 h; refine Zs (Zr ?_))
    | (replace h:=dN 4 h; refine fj rfl rfl rfl (eN Un.h rfl Sz.h (by decide) rfl (by (try simp only [Nat.zero_add,Nat.add_zero,Nat.reduceAdd]); exact rfl)) ?_)
    | (replace h:=dN 5 h; refine Zs ?_)
    | (replace h:=dN 6 h; refine w_ret ?_)
    | (replace h:=dN 7 h; refine fj rfl rfl rfl (a6 Un.h rfl rfl Atl) ?_)
    | (replace h:=dN 8 h; refine t_ret ?_)
    | (replace h:=dN 9 h; refine Ze (Zt (Zs (Zr ?_))))
    | (replace h:=dN 10 h; refine w_condR rfl ?_)
    | (replace h:=dN 11 h; refine Xn ?_)
    | (replace h:=dN 12 h; refine w_condS rfl (fun k=>by simp only [s,ne_eq] at k; exact k) (fun k=>by simp only [s,ne_eq] at k; exact k) ?_)
    | (replace h:=dN 13 h; refine Ze ?_)
    | (replace h:=dN 14 h; refine nh ?_)
    | (replace h:=dN 15 h; refine b_ret ?_)
    | (replace h:=dN 16 h; refine eu (Zt ?_))
    | (replace h:=dN 17 h; refine Zt ?_)
    | (replace h:=dN 18 h; refine Zr ?_)
    | (replace h:=dN 19 h; refine t_exit ?_)
    | (replace h:=dN 20 h; refine Xe ?_)
    | (replace h:=dN 21 h; refine Xi rfl rfl rfl (fun hg0=>by (try rw [hg0]); (try simp only [Qy]); exact ey rfl) ?_)
    | (replace h:=dN 22 h; refine Xi rfl rfl rfl (fun hg0=>by (try rw [hg0]); (try simp only [Qy]); exact eN Un.h rfl Sz.h (by decide) rfl (by (try simp only [Nat.zero_add,Nat.add_zero,Nat.reduceAdd]); exact rfl)) ?_)
    | (replace h:=dN 23 h; refine eu (Zt (Zs (Zr ?_))))
    | (replace h:=dN 24 h; refine ew rfl rfl rfl (v_lss rfl rfl) ?_; refine bM h fun b hb h=>?_; have s:=And.intro hb s)
    | (replace h:=dN 25 h; refine ew rfl rfl rfl (v_or rfl rfl) ?_; refine bM h fun b hb h=>?_; have s:=And.intro hb s)
    | (replace h:=dN 26 h; refine fj rfl rfl rfl (bf rfl rfl rfl Zo) ?_)
    | (replace h:=dN 27 h; refine b_norm ?_)
    | (replace h:=dN 28 h; refine x_alloc rfl rfl rfl Zr_.h ?_; refine pM h fun b h=>?_)
    | (replace h:=dN 29 h; refine cV rfl rfl rfl rfl rfl (ey rfl) ?_)
    | (replace h:=dN 30 h; refine ew rfl rfl rfl (lp rfl rfl) ?_; refine bM h fun b hb h=>?_; have s:=And.intro hb s)
    | (replace h:=dN 31 h; refine fj rfl rfl rfl (jF Un.h rfl) ?_)
    | (replace h:=dN 32 h; refine bV [] rfl rfl rfl rfl Sz.h rfl rfl ?_)
    | (replace h:=dN 33 h; refine x_no rfl rfl rfl rfl rfl ?_)
    | (replace h:=dN 34 h; refine w_exit ?_)
    | (replace h:=dN 35 h; refine b_hit ?_)
    | (replace h:=dN 36 h; refine x_box rfl rfl rfl rfl ?_; refine pM h fun b h=>?_)
    | (replace h:=dN 37 h; refine ew rfl rfl rfl (sT rfl rfl) ?_; refine bM h fun b hb h=>?_; have s:=And.intro hb s)
    | (replace h:=dN 38 h; refine ew rfl rfl rfl (mM rfl rfl) ?_; refine bM h fun b hb h=>?_; have s:=And.intro hb s)
    | (replace h:=dN 39 h; refine fj rfl rfl rfl (mP Un.h rfl rfl Sz.h Lbm (by exact rfl)) ?_)
    | (replace h:=dN 40 h; refine Xi rfl rfl rfl (fun hg0=>by (try rw [hg0]); (try simp only [Qy]); exact a6 Un.h rfl rfl Atl) ?_)
    | (replace h:=dN 41 h; refine du rfl rfl (eN Un.h rfl Sz.h (by decide) rfl (by (try simp only [Nat.zero_add,Nat.add_zero,Nat.reduceAdd]); exact rfl)) ?_)
    | (replace h:=dN 42 h; refine j_gr ?_ j_nil)
    | (replace h:=dN 43 h; refine ew rfl rfl rfl (sS rfl) ?_; refine bM h fun b hb h=>?_; have s:=And.intro hb s)
    | (replace h:=dN 44 h; refine du rfl rfl (ey rfl) ?_)
    | (replace h:=dN 45 h; refine eu ?_)
    | (replace h:=dN 46 h; refine fj rfl rfl rfl (ae Un.h Sz.h rfl rfl Zo rfl) ?_)
    | (replace h:=dN 47 h; refine cV rfl rfl rfl rfl rfl (eN Un.h rfl Sz.h (by decide) rfl (by (try simp only [Nat.zero_add,Nat.add_zero,Nat.reduceAdd]); exact rfl)) ?_)
    | (replace h:=dN 48 h; refine ew rfl rfl rfl (eE rfl rfl) ?_; refine bM h fun b hb h=>?_; have s:=And.intro hb s)
    | (replace h:=dN 49 h; refine du rfl rfl (a6 Un.h rfl rfl Atl) ?_)
    | (replace h:=dN 50 h; refine cV rfl rfl rfl rfl rfl (a6 Un.h rfl rfl Atl) ?_)
    | (replace h:=dN 51 h; refine fj rfl rfl rfl (Vl Un.h rfl) ?_)
    | (replace h:=dN 52 h; refine fj (v:=Value.bool false) rfl rfl rfl (gx (o:=some _) Un.h rfl rfl) ?_)
    | (replace h:=dN 53 h; refine fj rfl rfl rfl (pV Un.h rfl) ?_)
    | (replace h:=dN 54 h; refine fj rfl rfl rfl (dD rfl rfl rfl Zo) ?_)
    | (replace h:=dN 55 h; refine du rfl rfl (gp rfl) ?_)
    | (replace h:=dN 56 h; refine j_done ?_)
    | (replace h:=dN 57 h; refine ew rfl rfl rfl (v_geq rfl rfl) ?_; refine bM h fun b hb h=>?_; have s:=And.intro hb s)
    | (replace h:=dN 58 h; refine dG Ls ?_)
    | (replace h:=dN 59 h; refine Xi rfl rfl rfl (fun hg0=>by (try rw [hg0]); (try simp only [Qy]); exact gv rfl) ?_)
    | (replace h:=dN 60 h; refine ew rfl rfl rfl (v6 rfl rfl) ?_; refine bM h fun b hb h=>?_; have s:=And.intro hb s)
    | (replace h:=dN 61 h; refine Xi rfl rfl rfl (fun hg0=>by (try rw [hg0]); (try simp only [Qy]); exact jF Un.h rfl) ?_)
    | (replace h:=dN 62 h; refine ew rfl rfl rfl (gx (o:=some ⟨_,0,none⟩) Un.h rfl rfl) ?_; refine bM h fun b hb h=>?_; have s:=And.intro hb s)
    | (replace h:=dN 63 h; refine Xj rfl rfl rfl (fun hg0=>by (try rw [hg0]); (try simp only [Qy]); exact v6 rfl rfl) ?_; refine bM h fun b hb h=>?_; have s:=And.intro hb s)
    | (replace h:=dN 64 h; refine Xj rfl rfl rfl (fun hg0=>by (try rw [hg0]); (try simp only [Qy]); exact sS rfl) ?_; refine bM h fun b hb h=>?_; have s:=And.intro hb s)
    | (replace h:=dN 65 h; refine du rfl rfl (gv rfl) ?_)
    | (replace h:=dN 66 h; refine dG (.cons_cons _ (.cons_cons _ (List.nil_sublist _))) ?_)
    | (replace h:=dN 67 h; refine Xj rfl rfl rfl (fun hg0=>by (try rw [hg0]); (try simp only [Qy]); exact nH rfl rfl) ?_; refine bM h fun b hb h=>?_; have s:=And.intro hb s)
    | (replace h:=dN 68 h; refine cY rfl rfl rfl rfl rfl (v6 rfl rfl) ?_; refine bM h fun b hb h=>?_; have s:=And.intro hb s)
    | (replace h:=dN 69 h; refine Xj rfl rfl rfl (fun hg0=>by (try rw [hg0]); (try simp only [Qy]); exact v_geq rfl rfl) ?_; refine bM h fun b hb h=>?_; have s:=And.intro hb s)
    | (replace h:=dN 70 h; refine cY rfl rfl rfl rfl rfl (mM rfl rfl) ?_; refine bM h fun b hb h=>?_; have s:=And.intro hb s)
    | (replace h:=dN 71 h; refine fP _ rfl rfl rfl rfl rfl (fun hg=>by obtain ⟨hg0,hg1,_⟩:=hg; (try rw [hg0]); (try rw [hg1]); (try simp only [Qy]); exact ey rfl) ?_)
    | (replace h:=dN 72 h; refine Xj rfl rfl rfl (fun hg0=>by (try rw [hg0]); (try simp only [Qy]); exact v_lss rfl rfl) ?_; refine bM h fun b hb h=>?_; have s:=And.intro hb s)
    | (replace h:=dN 73 h; refine Xj rfl rfl rfl (fun hg0=>by (try rw [hg0]); (try simp only [Qy]); exact mM rfl rfl) ?_; refine bM h fun b hb h=>?_; have s:=And.intro hb s)
    | (replace h:=dN 74 h; refine Xj rfl rfl rfl (fun hg0=>by (try rw [hg0]); (try simp only [Qy]); exact sT rfl rfl) ?_; refine bM h fun b hb h=>?_; have s:=And.intro hb s)
    | (replace h:=dN 75 h; refine fj (v:=Value.bool true) rfl rfl rfl (gx (o:=none) Un.h rfl rfl) ?_)
    | (replace h:=dN 76 h; refine cY rfl rfl rfl rfl rfl (v_lss rfl rfl) ?_; refine bM h fun b hb h=>?_; have s:=And.intro hb s)
    | (replace h:=dN 77 h; refine du rfl rfl (eE rfl rfl) ?_)
    | (replace h:=dN 78 h; refine uV rfl rfl (eE rfl rfl) ?_; refine bM h fun b hb h=>?_; have s:=And.intro hb s)
    | (replace h:=dN 79 h; refine cY rfl rfl rfl rfl rfl (sT rfl rfl) ?_; refine bM h fun b hb h=>?_; have s:=And.intro hb s)
    | (replace h:=dN 80 h; refine Xi rfl rfl rfl (fun hg0=>by (try rw [hg0]); (try simp only [Qy]); exact dD rfl rfl rfl Zo) ?_)
    | (replace h:=dN 81 h; refine Xj rfl rfl rfl (fun hg0=>by (try rw [hg0]); (try simp only [Qy]); exact lp rfl rfl) ?_; refine bM h fun b hb h=>?_; have s:=And.intro hb s)
    | (replace h:=dN 82 h; refine cV rfl rfl rfl rfl rfl (gv rfl) ?_)
    | (replace h:=dN 83 h; refine Xi rfl rfl rfl (fun hg0=>by (try rw [hg0]); (try simp only [Qy]); exact pV Un.h rfl) ?_)
    | (replace h:=dN 84 h; refine du rfl rfl (mP Un.h rfl rfl Sz.h Lbm (by exact rfl)) ?_)
    | (replace h:=dN 85 h; refine ew rfl rfl rfl (nH rfl rfl) ?_; refine bM h fun b hb h=>?_; have s:=And.intro hb s)
    | (replace h:=dN 86 h; refine cV rfl rfl rfl rfl rfl (dD rfl rfl rfl Zo) ?_)
    | (replace h:=dN 87 h; refine cV rfl rfl rfl rfl rfl (jF Un.h rfl) ?_)
    | (replace h:=dN 88 h; refine cY rfl rfl rfl rfl rfl (rk rfl rfl) ?_; refine bM h fun b hb h=>?_; have s:=And.intro hb s)
    | (replace h:=dN 89 h; refine cV rfl rfl rfl rfl rfl (ae Un.h Sz.h rfl rfl Zo rfl) ?_)
    | (replace h:=dN 90 h; refine Xi rfl rfl rfl (fun hg0=>by (try rw [hg0]); (try simp only [Qy]); exact Vl Un.h rfl) ?_)
    | (replace h:=dN 91 h; refine cY rfl rfl rfl rfl rfl (uP rfl rfl) ?_; refine bM h fun b hb h=>?_; have s:=And.intro hb s)
    | (replace h:=dN 92 h; refine Xj rfl rfl rfl (fun hg0=>by (try rw [hg0]); (try simp only [Qy]); exact rk rfl rfl) ?_; refine bM h fun b hb h=>?_; have s:=And.intro hb s)
    | (replace h:=dN 93 h; refine Xj rfl rfl rfl (fun hg0=>by (try rw [hg0]); (try simp only [Qy]); exact v_or rfl rfl) ?_; refine bM h fun b hb h=>?_; have s:=And.intro hb s)
    | (replace h:=dN 94 h; refine fP _ rfl rfl rfl rfl rfl (fun hg=>by obtain ⟨hg0,hg1,_⟩:=hg; (try rw [hg0]); (try rw [hg1]); (try simp only [Qy]); exact gv rfl) ?_)
    | (replace h:=dN 95 h; refine fP _ rfl rfl rfl rfl rfl (fun hg=>by obtain ⟨hg0,hg1,_⟩:=hg; (try rw [hg0]); (try rw [hg1]); (try simp only [Qy]); exact eN Un.h rfl Sz.h (by decide) rfl (by (try simp only [Nat.zero_add,Nat.add_zero,Nat.reduceAdd]); exact rfl)) ?_)
    | (replace h:=dN 96 h; refine fP _ rfl rfl rfl rfl rfl (fun hg=>by obtain ⟨hg0,hg1,_⟩:=hg; (try rw [hg0]); (try rw [hg1]); (try simp only [Qy]); exact a6 Un.h rfl rfl Atl) ?_)
    | (replace h:=dN 97 h; refine cY rfl rfl rfl rfl rfl (lp rfl rfl) ?_; refine bM h fun b hb h=>?_; have s:=And.intro hb s)
    | (replace h:=dN 98 h; refine ew rfl rfl rfl (uP rfl rfl) ?_; refine bM h fun b hb h=>?_; have s:=And.intro hb s)
    | (replace h:=dN 99 h; refine ew rfl rfl rfl (rk rfl rfl) ?_; refine bM h fun b hb h=>?_; have s:=And.intro hb s)
    | (replace h:=dN 100 h; refine cY rfl rfl rfl rfl rfl (sS rfl) ?_; refine bM h fun b hb h=>?_; have s:=And.intro hb s)
    | (replace h:=dN 101 h; refine cY rfl rfl rfl rfl rfl (nH rfl rfl) ?_; refine bM h fun b hb h=>?_; have s:=And.intro hb s)
    | (replace h:=dN 102 h; refine ew rfl rfl rfl (gx Un.h rfl rfl) ?_; refine bM h fun b hb h=>?_; have s:=And.intro hb s)
    | (replace h:=dN 103 h; refine cY rfl rfl rfl rfl rfl (v_geq rfl rfl) ?_; refine bM h fun b hb h=>?_; have s:=And.intro hb s)
    | (replace h:=dN 104 h; refine cY rfl rfl rfl rfl rfl (v_or rfl rfl) ?_; refine bM h fun b hb h=>?_; have s:=And.intro hb s)
    | (replace h:=dN 105 h; refine cV rfl rfl rfl rfl rfl (bf rfl rfl rfl Zo) ?_)
    | (replace h:=dN 106 h; refine Xi rfl rfl rfl (fun hg0=>by (try rw [hg0]); (try simp only [Qy]); exact ae Un.h Sz.h rfl rfl Zo rfl) ?_)
    | (replace h:=dN 107 h; refine cY rfl rfl rfl rfl rfl (gx (o:=some ⟨_,0,none⟩) Un.h rfl rfl) ?_; refine bM h fun b hb h=>?_; have s:=And.intro hb s)
    | (replace h:=dN 108 h; refine Xj rfl rfl rfl (fun hg0=>by (try rw [hg0]); (try simp only [Qy]); exact uP rfl rfl) ?_; refine bM h fun b hb h=>?_; have s:=And.intro hb s)
    | (replace h:=dN 125 h; refine du rfl rfl (ae Un.h Sz.h rfl rfl Zo rfl) ?_)
    | (replace h:=dN 131 h; refine uV rfl rfl (sT rfl rfl) ?_; refine bM h fun b hb h=>?_; have s:=And.intro hb s)
    | (replace h:=dN 136 h; refine uV rfl rfl (v_or rfl rfl) ?_; refine bM h fun b hb h=>?_; have s:=And.intro hb s)
    | (replace h:=dN 144 h; refine Zw ?_)
    | (replace h:=dN 152 h; refine fj rfl rfl rfl (eN Un.h rfl Sz.h (by decide) rfl (by (try simp only [Nat.reduceAdd]); exact rfl)) ?_)
    | (replace h:=dN 153 h; refine Xi rfl rfl rfl (fun hg0=>by (try rw [hg0]); (try simp only [Qy]); exact eN Un.h rfl Sz.h (by decide) rfl (by (try simp only [Nat.reduceAdd]); exact rfl)) ?_)
    | (replace h:=dN 154 h; refine cV rfl rfl rfl rfl rfl (eN Un.h rfl Sz.h (by decide) rfl (by (try simp only [Nat.reduceAdd]); exact rfl)) ?_)
    | (replace h:=dN 155 h; refine du rfl rfl (eN Un.h rfl Sz.h (by decide) rfl (by (try simp only [Nat.reduceAdd]); exact rfl)) ?_))
    exact Bx.v (c:=[]) h):p:=e ⟨h⟩
theorem Aw {a b c d:Prop} (h:a→b) (k:c→d):(a→b)∧(c→d):=⟨h,k⟩
section
variable {P:Program} {n:Nat} {l:List (Nat×Value)} {own:List (Nat×Obj)} {ro:List au} {lops:List Oper} {Q:Exit→Act→World→Prop} {K:Act→World→Prop} {rest:List (Option Bool×Nat)} {k:Option Bool} {i d:Nat} {ty:TypeId} {pos:String} {af:Array Edge} {f:FuncId} {fn:Func} {xs:Array Operand} {tys:Array TypeId} {vs:List Value}
theorem Xc (ho:lops[i]?=some ⟨some d,.call ⟨.value (.func f),xs,tys⟩,ty,pos,af,none⟩) (hf:P.funcs[f]?=some fn) (hx:ll l xs.toList=some vs) {v:Value} (hc:∀ w,Mem w own ro→Calls P f vs.toArray w fun e w'=>e=.returned v∧Later w w') (h:WX P lops.toArray Q K rest n ((d,v)::l) own ro)
    (hk:k.getD true=true:=by exact rfl) (hd:decide (d < n)=true:=by exact rfl) (hbody:(!(fn.name == "runtime.NumGoroutine") && fn.body.isSome)=true:=by kernel_rfl):WX P lops.toArray Q K ((k,i)::rest) n l own ro:=ni ho hk hd hf hbody hx hc h
theorem Xh (ho:lops[i]?=some ⟨some d,.call ⟨.value (.func f),xs,tys⟩,ty,pos,af,none⟩) (hf:P.funcs[f]?=some fn) (hx:ll l xs.toList=some vs) {b:Bool} (hc:∀ w,Mem w own ro→Calls P f vs.toArray w fun e w'=>e=.returned (.bool b)∧Later w w') (h:∀ c,c=b→WX P lops.toArray Q K rest n ((d,.bool c)::l) own ro)
    (hk:k.getD true=true:=by exact rfl) (hd:decide (d < n)=true:=by exact rfl) (hbody:(!(fn.name == "runtime.NumGoroutine") && fn.body.isSome)=true:=by kernel_rfl):WX P lops.toArray Q K ((k,i)::rest) n l own ro:=x_callb ho hk hd hf hbody hx hc h
theorem Xd (ho:lops[i]?=some ⟨some d,.call ⟨.value (.func f),xs,tys⟩,ty,pos,af,none⟩) (hf:P.funcs[f]?=some fn) (hx:ll l xs.toList=some vs) {R:Value→World→World→Prop} (hc:∀ w,Mem w own ro→Calls P f vs.toArray w fun e w'=>∃ v,e=.returned v∧Later w w'∧R v w w') (h:∀ v w1 w2,Mem w1 own ro→Later w1 w2→R v w1 w2→WX P lops.toArray Q K rest n ((d,v)::l) own ((w2,aZ own)::ro))
    (hk:(k == some true)=false:=by exact rfl) (hd:decide (d < n)=true:=by exact rfl) (hbody:(!(fn.name == "runtime.NumGoroutine") && fn.body.isSome)=true:=by kernel_rfl):WX P lops.toArray Q K ((k,i)::rest) n l own ro:=x_call ho hk hd hf hbody hx hc h
theorem ba {id:Nat} (m:Nat) (h:WX P lops.toArray Q (fun a w=>Q .normal a w) (((List.range' 0 m).map fun i=>(some true,i))++dT m lops.length) n l own ro) (hm:P.follows .mixedOrders=true:=by kernel_rfl) (hB:canB .any lops.toArray m ((List.range' 0 m).map fun i=>(true,i))=true:=by kernel_rfl):W P (.region id lops.toArray true) Q n l own ro :=
  ep m ((List.range' 0 m).map fun i=>(true,i)) hm hB (by rw [List.map_map]; exact h)
end
theorem oI {P:Program} {ops:Array Oper} {n:Nat} {l:List (Nat×Value)} {own:List (Nat×Obj)} {ro:List au} {Q:Exit→Act→World→Prop} {K:Act→World→Prop} {rest:List (Option Bool×Nat)} {k:Option Bool} {j:Nat} (i:Nat) (h:WX P ops Q K ((k,j)::rest) n l own ro) (e:i=j:=by exact rfl):WX P ops Q K ((k,j)::rest) n l own ro:=h
theorem oS {n:Nat} {l:List (Nat×Value)} {own:List (Nat×Obj)} {ro:List au} {K:Act→World→Prop} (h:S K n l own ro):S K n l own ro:=h
theorem Mem.b {w:World} {own:List (Nat×Obj)} {ro:List au} (h:Mem w own ro) {w0:World} (hs:(w0,fun _=>True)∈ro:=by simp):Later w0 w:=h.base hs
theorem Ls {α:Type} {a:α} {l:List α}:l.Sublist (a::l):=List.sublist_cons_self _ _
end Go.PK

namespace Go.PK
open Go Go.RowKit
def tyB:Ty UInt8 where
  size:=1
  rd:=fun _ _ cs x=>cs=[.int .u8 (x.toNat:Nat)]
  len:=fun h=>by rw [h]; rfl
  keep:=fun h _=>h
theorem row1_T {α:Type} {T:Ty α} {D:Nat→Prop} {ws:World} {r:ak} {xs:List α} {n:Nat} (f:α→Value) (hs:T.size=1) (hr:ag 1 r n (xs.map f)) (hn:n=xs.length) (hT:∀ x∈xs,T.rd D ws [f x] x):cU T D ws r xs:=by
  subst hn
  refine ⟨xs.map fun x=>[f x],by simp,?_,fun j h1 h2=>?_⟩
  · have e:(xs.map fun x=>[f x]).flatten=xs.map f:=by
      clear hr hT
      induction xs with
      | nil=>rfl
      | cons x xs ih=>simp [ih]
    rw [e,hs]; exact hr
  · rw [List.getElem_map]; exact hT _ (List.getElem_mem h2)
theorem wC {α:Type} {T:Ty α} {D:Nat→Prop} {w:World} {own:List (Nat×Obj)} {ro:List au} {e:TypeId} {r:ak} {xs:List α} {n:Nat} (f:α→Value) (hs:T.size=1) (hr:ag 1 r n (xs.map f)) (hn:n=xs.length) (hT:∀ D' ws,∀ x∈xs,T.rd D' ws [f x] x)
    (hm:Mem w own ro) (hin:∀ p∈aA e r,p∈own) (hD:∀ p∈aA e r,D p.1):aa T D w (av r n) xs :=
  (row1_T (D:=fun _=>False) (ws:=w) f hs hr hn (hT _ _)).rd hm hin (fun _ h=>h.elim) hD hn
theorem b_at {D:Nat→Prop} {w:World} {A:Option Addr} {l c:Nat} {xs:List UInt8} (h:aa tyB D w (.slice A l c) xs) {k:Nat} (hk:k < xs.length) :
    ∃ b off,A=some ⟨b,off,none⟩∧D b∧w.cell? ⟨b,off+k,none⟩=some (.int .u8 (xs[k].toNat:Nat)):=by
  obtain ⟨A',c',e,h1,h2,h3⟩:=h
  injection e with e1 e2 e3
  obtain ⟨b,off,hA,hD,hb,hc⟩:=h3 (by omega)
  obtain ⟨cs,hcs,hok⟩:=hc k hk
  have hok:cs=[.int .u8 (xs[k].toNat:Nat)]:=hok
  subst hok
  have:=hcs 0 (by simp)
  exact ⟨b,off,e1.trans hA,hD,by simpa [tyB] using this⟩
theorem nY {D:Nat→Prop} {w:World} {A:Option Addr} {l c:Nat} {xs:List ByteArray} (h:aa aV D w (.slice A l c) xs) {k:Nat} (hk:k < xs.length) :
    ∃ b off,A=some ⟨b,off,none⟩∧D b∧w.cell? ⟨b,off+k,none⟩=some (.string xs[k])∧iw xs[k]:=by
  obtain ⟨A',c',e,h1,h2,h3⟩:=h
  injection e with e1 e2 e3
  obtain ⟨b,off,hA,hD,hb,hc⟩:=h3 (by omega)
  obtain ⟨cs,hcs,hok⟩:=hc k hk
  obtain ⟨hok,hs⟩:cs=[.string xs[k]]∧iw xs[k]:=hok
  subst hok
  have:=hcs 0 (by simp)
  exact ⟨b,off,e1.trans hA,hD,by simpa [aV] using this,hs⟩
theorem qo {α:Type} {T:Ty α} {D:Nat→Prop} {w:World} {A:Option Addr} {l c:Nat} {xs:List (List α)} (h:aa (aO T) D w (.slice A l c) xs) {k:Nat} (hk:k < xs.length) :
    ∃ b off v,A=some ⟨b,off,none⟩∧D b∧w.cell? ⟨b,off+k,none⟩=some v∧aa T D w v xs[k]:=by
  obtain ⟨A',c',e,h1,h2,h3⟩:=h
  injection e with e1 e2 e3
  obtain ⟨b,off,hA,hD,hb,hc⟩:=h3 (by omega)
  obtain ⟨cs,hcs,hok⟩:=hc k hk
  obtain ⟨v,hv,hr⟩:∃ v,cs=[v]∧aa T D w v xs[k]:=hok
  subst hv
  have:=hcs 0 (by simp)
  exact ⟨b,off,v,e1.trans hA,hD,by simpa [aO] using this,hr⟩
def uY (l:List UInt8) (c:UInt8):Bool:=l.any (fun x=>decide (c=x))
theorem cap_a (c:UInt8):(decide (((c.toNat:Nat):Int)≥65) && decide (((c.toNat:Nat):Int)≤90))=ez c:=by
  unfold ez; rw [← Bool.decide_and]; exact decide_eq_decide.2 (by omega)
def mS (c:UInt8):Bool:=decide (c=58) || decide (c=43) || decide (c=63) || decide (c=39)
theorem rJ (c k:UInt8) {z:Int} (hz:z=(k.toNat:Nat)):decide (((c.toNat:Nat):Int)=z)=decide (c=k):=by subst hz; exact decide_eq_decide.2 bP
theorem sign_a (c:UInt8):(decide (((c.toNat:Nat):Int)=58) || decide (((c.toNat:Nat):Int)=43) || decide (((c.toNat:Nat):Int)=63) || decide (((c.toNat:Nat):Int)=39))=mS c:=by
  unfold mS; rw [rJ (z:=58) c 58 rfl,rJ (z:=43) c 43 rfl,rJ (z:=63) c 63 rfl,rJ (z:=39) c 39 rfl]
def clr (c:UInt8):UInt8:=UInt8.ofNat (lA .u8 (c.toNat:Nat) 32).toNat
theorem wE:∀ c:Fin 256,lA .u8 (c.val:Nat) 32=((clr (UInt8.ofNat c.val)).toNat:Nat)∧(ez (clr (UInt8.ofNat c.val))=true↔(65≤c.val∧c.val≤90)∨(97≤c.val∧c.val≤122)):=by decide +kernel
theorem clr_val (c:UInt8):lA .u8 (c.toNat:Nat) 32=((clr c).toNat:Nat):=by
  have:=(wE ⟨c.toNat,c.toNat_lt⟩).1
  simpa using this
theorem wF (c:UInt8):ez (clr c)=true↔(65≤c.toNat∧c.toNat≤90)∨(97≤c.toNat∧c.toNat≤122):=by
  have:=(wE ⟨c.toNat,c.toNat_lt⟩).2
  simpa using this
def gl (g:Sg):List UInt8:=[g.c,g.e,g.r,g.n]
def jt (l:List UInt8) (k:Nat):Prop:=iF (l.getD k 0)∨uY (l.take k) (l.getD k 0)=true
instance (l:List UInt8) (k:Nat):Decidable (jt l k):=by unfold jt; infer_instance
def mj (l:List UInt8):Nat→Prop
  | 0=>True
  | k+1=>mj l k∧¬jt l k
theorem j7 {l:List UInt8}:∀ {m k:Nat},k < m→mj l m→¬jt l k
  | 0,_,h,_=>by omega
  | m+1,k,h,hr=>by
    rcases Nat.lt_succ_iff_lt_or_eq.1 h with h | rfl
    · exact j7 h hr.1
    · exact hr.2
theorem gA (g:Sg):eM g↔mj (gl g) 4:=by
  obtain ⟨c,e,r,n⟩:=g
  simp only [eM,mj,jt,gl,uY,List.getD_cons_zero,List.getD_cons_succ,List.take_zero,List.take_succ_cons,List.any_nil,List.any_cons,Bool.or_eq_true,decide_eq_true_eq,not_or,Bool.false_eq_true,or_false,true_and,ne_eq]
  constructor
  · rintro ⟨⟨h1,h2,h3,h4⟩,h5,⟨h6,h7⟩,h8,h9,h10⟩
    exact ⟨⟨⟨h1,h2,h5⟩,h3,h6,h7⟩,h4,h8,h9,h10⟩
  · rintro ⟨⟨⟨h1,h2,h5⟩,h3,h6,h7⟩,h4,h8,h9,h10⟩
    exact ⟨⟨h1,h2,h3,h4⟩,h5,⟨h6,h7⟩,h8,h9,h10⟩
end Go.PK

namespace Go.PK
open Go Go.RowKit
def u6 (xs:List (List ByteArray)) (Ss:List ak):List Value:=List.zipWith (fun x S=>av S x.length) xs Ss
structure SSOK (R:ak) (Ss:List ak) (xs:List (List ByteArray)):Prop where
  len:Ss.length=xs.length
  row:ag 1 R xs.length (u6 xs Ss)
  sub:∀ j (h1:j < Ss.length) (h2:j < xs.length),ag 1 Ss[j] xs[j].length (xs[j].map Value.string)
def rK (e:TypeId) (Ss:List ak):List (Nat×Obj):=Ss.reverse.flatMap (aA e)
theorem iH (e:TypeId) (Ss:List ak) (S:ak):rK e (Ss++[S])=aA e S++rK e Ss:=by simp [rK]
theorem SSOK.nil:SSOK none [] []:=⟨rfl,bE,fun j h=>by simp at h⟩
theorem lF {xs:List (List ByteArray)} {Ss:List ak} (h:Ss.length=xs.length) (x:List ByteArray) (S:ak):u6 (xs++[x]) (Ss++[S])=u6 xs Ss++[av S x.length]:=by
  unfold u6; rw [List.zipWith_append h.symm]; rfl
theorem j8 {xs:List (List ByteArray)} {Ss:List ak} (h:Ss.length=xs.length):(u6 xs Ss).length=xs.length:=by unfold u6; rw [List.length_zipWith,h,Nat.min_self]
theorem SSOK.snoc {R R' S:ak} {Ss:List ak} {xs:List (List ByteArray)} {x:List ByteArray} (h:SSOK R Ss xs) (hr:ag 1 R' (xs.length+1) (u6 xs Ss++[av S x.length])) (hs:ag 1 S x.length (x.map Value.string)):SSOK R' (Ss++[S]) (xs++[x]) where
  len:=by simp [h.len]
  row:=by rw [lF h.len]; simpa using hr
  sub:=fun j h1 h2=>by
    by_cases hj:j < Ss.length
    · have hj2:j < xs.length:=by rw [← h.len]; exact hj
      rw [List.getElem_append_left hj]
      simp only [List.getElem_append_left hj2]
      exact h.sub j hj hj2
    · have hj2:j=xs.length:=by have:=h.len; simp at h1 h2; omega
      subst hj2
      rw [List.getElem_append_right (by omega)]
      simp only [List.getElem_append_right (Nat.le_refl _)]
      simpa [h.len] using hs
theorem SSOK.last {R:ak} {Ss:List ak} {xs:List (List ByteArray)} (h:SSOK R Ss xs) (hne:xs≠[]):∃ ys y Ts S b cs c,xs=ys++[y]∧Ss=Ts++[S]∧R=some (b,cs,c):=by
  have hx:=(List.dropLast_concat_getLast hne).symm
  have hne2:Ss≠[]:=fun e=>by have:=h.len; rw [e] at this; exact hne (List.eq_nil_of_length_eq_zero this.symm)
  have hS:=(List.dropLast_concat_getLast hne2).symm
  cases hR:R with
  | none=>have h1:=h.row; rw [hR] at h1; exact absurd (List.eq_nil_of_length_eq_zero h1.2) hne
  | some z=>obtain ⟨b,cs,c⟩:=z; exact ⟨_,_,_,_,b,cs,c,hx,hS,rfl⟩
section
variable {R:ak} {b c:Nat} {cs:List Value} {Ts:List ak} {S S':ak} {ys:List (List ByteArray)} {y y':List ByteArray}
theorem SSOK.tl (h:SSOK R (Ts++[S]) (ys++[y])):Ts.length=ys.length:=by have:=h.len; simpa using this
theorem SSOK.lastOK (h:SSOK R (Ts++[S]) (ys++[y])):ag 1 S y.length (y.map Value.string):=by
  have hl:=h.tl
  have:=h.sub ys.length (by simp; omega) (by simp)
  rw [List.getElem_append_right (by omega)] at this
  simp only [List.getElem_append_right (Nat.le_refl _)] at this
  simpa [hl] using this
theorem SSOK.lastAt (h:SSOK (some (b,cs,c)) (Ts++[S]) (ys++[y])):cs[ys.length]?=some (av S y.length)∧ys.length < cs.length:=by
  obtain ⟨h1,h2,h3,h4,h5⟩:=h.row
  dsimp only at h2 h3 h4 h5
  rw [lF h.tl] at h5
  have h6:(cs.take ((ys++[y]).length*1))[ys.length]?=some (av S y.length):=by
    rw [h5,List.getElem?_append_right (by rw [j8 h.tl]; exact Nat.le_refl _),j8 h.tl]; simp
  rw [List.getElem?_take,if_pos (by simp)] at h6
  exact ⟨h6,(List.getElem?_eq_some_iff.1 h6).1⟩
theorem SSOK.setlast (h:SSOK (some (b,cs,c)) (Ts++[S]) (ys++[y])) (hs:ag 1 S' y'.length (y'.map Value.string)):SSOK (some (b,cs.set ys.length (av S' y'.length),c)) (Ts++[S']) (ys++[y']) where
  len:=by have:=h.len; simpa using this
  row:=by
    obtain ⟨h1,h2,h3,h4,h5⟩:=h.row
    dsimp only at h2 h3 h4 h5
    rw [lF h.tl] at h5 h1
    rw [lF h.tl]
    simp only [List.length_append,List.length_singleton,Nat.mul_one] at h1 h2 h5
    refine ⟨by simpa using h1,by simpa using h2,h3,by simpa using h4,?_⟩
    simp only [List.length_append,List.length_singleton,Nat.mul_one]
    rw [List.take_set,h5,List.set_append_right _ _ (by rw [j8 h.tl]; exact Nat.le_refl _),j8 h.tl]
    simp
  sub:=fun j h1 h2=>by
    have hl:=h.tl
    by_cases hj:j < ys.length
    · rw [List.getElem_append_left (by omega)]
      simp only [List.getElem_append_left hj]
      have:=h.sub j (by simp; omega) (by simp; omega)
      rw [List.getElem_append_left (by omega)] at this
      simp only [List.getElem_append_left hj] at this
      exact this
    · have hj2:j=ys.length:=by simp at h2; omega
      subst hj2
      rw [List.getElem_append_right (by omega)]
      simp only [List.getElem_append_right (Nat.le_refl _)]
      simpa [hl] using hs
end
theorem tz {cs:List Value} {k n:Nat} {S:ak} (h:k < cs.length):List.take k cs++(av S n).cells.toList++List.drop (k+1) cs=cs.set k (av S n):=by
  show List.take k cs++[av S n]++List.drop (k+1) cs=_
  rw [List.set_eq_take_append_cons_drop,if_pos h]; simp
theorem wG {e:TypeId} {Ss:List ak} {j:Nat} (h:j < Ss.length):∀ p∈aA e Ss[j],p∈rK e Ss:=fun p hp=>by
  unfold rK
  exact List.mem_flatMap.2 ⟨Ss[j],by simp,hp⟩
theorem wH {D:Nat→Prop} {w:World} {own:List (Nat×Obj)} {ro:List au} {e:TypeId} {r:ak} {xs:List ByteArray} {n:Nat} (hr:ag 1 r n (xs.map Value.string)) (hn:n=xs.length) (hok:∀ s∈xs,iw s)
    (hm:Mem w own ro) (hin:∀ p∈aA e r,p∈own) (hD:∀ p∈aA e r,D p.1):aa aV D w (av r n) xs :=
  wC Value.string rfl hr hn (fun D' ws x hx=>⟨rfl,hok x hx⟩) hm hin hD
theorem SSOK.rd {R:ak} {Ss:List ak} {xs:List (List ByteArray)} {D:Nat→Prop} {w:World} {own:List (Nat×Obj)} {ro:List au} {eR eS:TypeId} {n:Nat} (h:SSOK R Ss xs) (hn:n=xs.length) (hok:∀ x∈xs,∀ s∈x,iw s)
    (hm:Mem w own ro) (hR:∀ p∈aA eR R,p∈own) (hS:∀ p∈rK eS Ss,p∈own) (hD:∀ p∈aA eR R,D p.1) (hD2:∀ p∈rK eS Ss,D p.1):aa (aO aV) D w (av R n) xs:=by
  have hT:cU (aO aV) D w R xs:=by
    refine ⟨(u6 xs Ss).map fun v=>[v],by rw [List.length_map,j8 h.len],?_,fun j h1 h2=>?_⟩
    · have e:((u6 xs Ss).map fun v=>[v]).flatten=u6 xs Ss:=by
        generalize u6 xs Ss=l
        induction l with
        | nil=>rfl
        | cons a l ih=>simp [ih]
      rw [e]; exact h.row
    · rw [List.getElem_map]
      have hjS:j < Ss.length:=by rw [h.len]; exact h2
      have hv:(u6 xs Ss)[j]'(by rw [j8 h.len]; exact h2)=av Ss[j] xs[j].length:=by unfold u6; rw [List.getElem_zipWith]
      rw [hv]
      exact ⟨_,rfl,wH (e:=eS) (h.sub j hjS h2) rfl (hok _ (List.getElem_mem h2)) hm (fun p hp=>hS p (wG hjS p hp)) (fun p hp=>hD2 p (wG hjS p hp))⟩
  exact hT.rd hm hR (fun _ h=>h) hD hn
end Go.PK

namespace Go.PK
open Go Go.RowKit
abbrev OpenR:=Option (Sg×Nat)×Int×Int
def cf (s:ByteArray):OpenR :=
  if pJ s then (if s.size < 9 then (none,((s.size:Nat):Int),10) else if eM (jf s) then (some (jf s,9),0,0) else (none,3,11))
  else (some (bL,0),0,0)
theorem iI (s:ByteArray):aJ s=match (cf s).1 with | some (g,a)=>lB s g a [] | none=>([],(cf s).2):=by
  unfold aJ cf
  split
  · split
    · rfl
    · split <;> rfl
  · rfl
theorem wI (s:ByteArray):pre s ⟨#[85,78,65]⟩=decide (pJ s):=rfl
theorem nZ (s:ByteArray) {g:Sg} {a:Nat} (h:(cf s).1=some (g,a)):a≤s.size∧(cf s).2=(0,0):=by
  unfold cf at h ⊢
  split at h
  · rename_i hu
    rw [if_pos hu]
    split at h
    · cases h
    · rename_i h9
      rw [if_neg h9]
      split at h
      · rename_i hr
        injection h with h; injection h with h1 h2
        rw [if_pos hr]; exact ⟨by omega,rfl⟩
      · cases h
  · rename_i hu
    rw [if_neg hu]
    injection h with h; injection h with h1 h2
    exact ⟨by omega,rfl⟩
theorem va (s:ByteArray) (h:(cf s).1=none):(cf s).2.2=10∨(cf s).2.2=11:=by
  unfold cf at h ⊢
  split at h
  · rename_i hu
    rw [if_pos hu]
    split at h
    · rename_i h9; rw [if_pos h9]; exact .inl rfl
    · rename_i h9
      rw [if_neg h9]
      split at h
      · cases h
      · rename_i hr; rw [if_neg hr]; exact .inr rfl
  · cases h
def aX:Ty Seg:=(jK aV (jK (aO (aO aV)) wj)).map fun p=>⟨p.1,p.2.1⟩
theorem bi {D:Nat→Prop} {w:World} {t:ByteArray} {v:Value} {x:Seg} (ht:t=x.tag) (hok:iw x.tag) (hv:aa (aO aV) D w v x.els):aX.rd D w [.string t,v] x:=by
  subst ht
  exact ⟨(x.tag,x.els,()),⟨[.string x.tag],[v],rfl,⟨rfl,hok⟩,[v],[],rfl,⟨v,rfl,hv⟩,rfl⟩,rfl⟩
theorem tySeg_is {D:Nat→Prop} {w:World} {cs:List Value} {x:Seg} (h:aX.rd D w cs x):∃ v,cs=[.string x.tag,v]∧iw x.tag∧aa (aO aV) D w v x.els:=by
  obtain ⟨⟨t,e,u⟩,⟨a,b,h0,⟨h1,h1k⟩,c,d,h2,⟨v,h3,h4⟩,h5⟩,h6⟩:=h
  subst h6
  have h5:d=[]:=h5
  dsimp only at h1 h3 h4 h1k
  exact ⟨v,by rw [h0,h1,h2,h3,h5]; rfl,h1k,h4⟩
theorem ml {D:Nat→Prop} {w:World} {A:Option Addr} {l c:Nat} {xs:List Seg} (h:aa aX D w (.slice A l c) xs) {k:Nat} (hk:k < xs.length) :
    ∃ b off v,A=some ⟨b,off,none⟩∧D b∧w.cell? ⟨b,off+k*2,none⟩=some (.string xs[k].tag)∧w.cell? ⟨b,off+k*2+1,none⟩=some v∧iw xs[k].tag∧aa (aO aV) D w v xs[k].els:=by
  obtain ⟨A',c',e,h1,h2,h3⟩:=h
  injection e with e1 e2 e3
  obtain ⟨b,off,hA,hD,hb,hc⟩:=h3 (by omega)
  obtain ⟨cs,hcs,hok⟩:=hc k hk
  obtain ⟨v,rfl,h4,h5⟩:=tySeg_is hok
  have h6:=hcs 0 (by simp)
  have h7:=hcs 1 (by simp)
  have hs:aX.size=2:=rfl
  rw [hs] at h6 h7
  exact ⟨b,off,v,e1.trans hA,hD,h6,h7,h4,h5⟩
theorem aU.made2 {w wa wb w0:World} {own:List (Nat×Obj)} {ro:List au} {D1:Nat→Prop} (h:Mem w0 own ro) (hs:(wb,D1)∈ro) (hD:∀ k,wa.heap.size≤k→D1 k) (hw:w.heap.size≤wa.heap.size):aU (fun b=>wa.heap.size≤b) (dy w own) wb w0 :=
  fun k hk hlt=>⟨⟨Nat.le_trans hw hk,fun p hp he=>by
    have h1:=h.apart p hp _ hs (hD _ (by omega))
    simp only at h1; omega⟩,h.ro_at _ hs k (hD k hk) hlt⟩
theorem Mem.join {w1 w2:World} {own1 own2:List (Nat×Obj)} {ro:List au} (h1:Mem w1 own1 ro) (h2:Mem w2 own2 [(w1,fun _=>True)]):Mem w2 own2 ro where
  own_at:=h2.own_at
  own_nd:=h2.own_nd
  ro_st:=fun s hs=>by
    obtain ⟨a,b,c,d⟩:=h1.ro_st s hs
    obtain ⟨a',b',c',d'⟩:=h2.ro_st _ (.head _)
    exact ⟨a'.trans a,b'.trans b,c'.trans c,Nat.le_trans d d'⟩
  ro_at:=fun s hs k hk hlt=>(h2.ro_at _ (.head _) k trivial (Nat.lt_of_lt_of_le hlt (h1.ro_st s hs).2.2.2)).trans (h1.ro_at s hs k hk hlt)
  apart:=fun q hq s hs hd=>Nat.le_trans (h1.ro_st s hs).2.2.2 (h2.apart q hq _ (.head _) trivial)
theorem aS {α:Type} {T:Ty α} {D:Nat→Prop} {w:World}:aa T D w (.slice none 0 0) []:=⟨none,0,rfl,Nat.le_refl _,Nat.zero_le _,fun h=>by simp at h⟩
theorem vb {w:World} {l1 l2:List (Nat×Obj)} {ro:List au} {p:Nat} {o o':Obj} (h:Mem w (l1++(p,o)::l2) ro) (k:Nat) (hk:w.heap.size≤k):aZ (l1++(p,o')::l2) k:=fun q hq e=>by
  have h1:∃ q2∈l1++(p,o)::l2,q2.1=q.1:=by
    simp only [List.mem_append,List.mem_cons] at hq ⊢
    rcases hq with hq | rfl | hq
    · exact ⟨q,.inl hq,rfl⟩
    · exact ⟨_,.inr (.inl rfl),rfl⟩
    · exact ⟨q,.inr (.inr hq),rfl⟩
  obtain ⟨q2,h2,e2⟩:=h1
  have:=h.lt h2
  omega
end Go.PK

namespace Go.PK
open Go Go.RowKit
theorem qs {l:List UInt8} {k:Nat} {c:UInt8} (hk:k≤l.length):uY (l.take k) c=true↔∃ j,j < k∧l.getD j 0=c:=by
  unfold uY
  rw [List.any_eq_true]
  constructor
  · rintro ⟨x,hx,he⟩
    obtain ⟨j,hj,rfl⟩:=List.mem_iff_getElem.1 hx
    rw [List.length_take] at hj
    refine ⟨j,by omega,?_⟩
    rw [List.getElem_take] at he
    rw [List.getD_eq_getElem?_getD,List.getElem?_eq_getElem (by omega)]
    exact (of_decide_eq_true he).symm
  · rintro ⟨j,hj,rfl⟩
    have hj2:j < l.length:=by omega
    refine ⟨l.getD j 0,?_,by simp⟩
    rw [List.getD_eq_getElem?_getD,List.getElem?_eq_getElem hj2]
    exact List.mem_take_iff_getElem.2 ⟨j,by omega,rfl⟩
theorem qt (g:Sg) {k:Nat} (h:k < 4):g.cells[k]?=some (.int .u8 (((gl g).getD k 0).toNat:Nat)):=by
  match k,h with
  | 0,_=>rfl
  | 1,_=>rfl
  | 2,_=>rfl
  | 3,_=>rfl
theorem tB (bs:List UInt8) (c:UInt8):(⟨bs.toArray⟩:ByteArray)++⟨[c].toArray⟩=⟨(bs++[c]).toArray⟩:=by
  rw [ByteArray.ext_iff]; simp
theorem rL {s:ByteArray} {x:Nat} (h:x < s.size):s.extract x (x+1)=⟨[ad s x].toArray⟩:=by
  rw [ByteArray.ext_iff]
  have hx:x < s.data.size:=h
  apply Array.ext
  · simp only [ByteArray.data_extract,Array.size_extract,List.size_toArray,List.length_singleton]; omega
  · intro i h1 h2
    obtain rfl:i=0:=by simpa using h2
    simp only [ByteArray.data_extract,Array.getElem_extract,Nat.add_zero]
    show s.data[x]=ad s x
    unfold ad
    rw [List.getD_eq_getElem?_getD,List.getElem?_eq_getElem (by simpa using hx)]
    simp
theorem str_cut {s:ByteArray} {x:Nat} (bs:List UInt8) (h:x < s.size):(⟨bs.toArray⟩:ByteArray)++s.extract x (x+1)=⟨(bs++[ad s x]).toArray⟩:=by rw [rL h,tB]
def fm (s:ByteArray) (g:Sg) (x:Nat) (bs:List UInt8) (out:List (List ByteArray)):ElR :=
  match cD s g x bs with
  | none=>none
  | some (t,c,a)=>iW s g c a (gb out ⟨t.toArray⟩)
theorem el_cont {s:ByteArray} {g:Sg} {c:UInt8} {x:Nat} {out:List (List ByteArray)} (h:¬c=g.n):iW s g c x out=fm s g x [] (jN g c out):=by
  rw [qj,if_neg h]; rfl
theorem cont_rel {s:ByteArray} {g:Sg} {x:Nat} {bs:List UInt8} {out:List (List ByteArray)} (h:x < s.size) (h1:¬(ad s x=g.c∨ad s x=g.e∨ad s x=g.n)) (h2:ad s x=g.r) (h3:¬x+1=s.size):fm s g x bs out=fm s g (x+2) (bs++[ad s (x+1)]) out:=by
  unfold fm; rw [eL s g x,if_pos h,if_neg h1,if_pos h2,if_neg h3]
theorem cont_end {s:ByteArray} {g:Sg} {x:Nat} {bs:List UInt8} {out:List (List ByteArray)} (h:x < s.size) (h1:¬(ad s x=g.c∨ad s x=g.e∨ad s x=g.n)) (h2:ad s x=g.r) (h3:x+1=s.size):fm s g x bs out=none:=by
  unfold fm; rw [eL s g x,if_pos h,if_neg h1,if_pos h2,if_pos h3]
theorem yh {s:ByteArray} {g:Sg} {x:Nat} {bs:List UInt8} {out:List (List ByteArray)} (h:x < s.size) (h1:¬(ad s x=g.c∨ad s x=g.e∨ad s x=g.n)) (h2:¬ad s x=g.r):fm s g x bs out=fm s g (x+1) (bs++[ad s x]) out:=by
  unfold fm; rw [eL s g x,if_pos h,if_neg h1,if_neg h2]
theorem cont_sep {s:ByteArray} {g:Sg} {x:Nat} {bs:List UInt8} {out:List (List ByteArray)} (h:x < s.size) (h1:ad s x=g.c∨ad s x=g.e∨ad s x=g.n):fm s g x bs out=iW s g (ad s x) (x+1) (gb out ⟨bs.toArray⟩):=by
  unfold fm; rw [eL s g x,if_pos h,if_pos h1]
theorem yi {s:ByteArray} {g:Sg} {x:Nat} {bs:List UInt8} {out:List (List ByteArray)} (h:¬x < s.size):fm s g x bs out=none:=by
  unfold fm; rw [eL s g x,if_neg h]
theorem vc (s:ByteArray) {g:Sg} {a:Nat} (h:(cf s).1=some (g,a)):eM g:=by
  unfold cf at h
  split at h
  · split at h
    · cases h
    · split at h
      · rename_i hr; injection h with h; injection h with h1 h2; exact h1▸hr
      · cases h
  · injection h with h; injection h with h1 h2; subst h1; decide
theorem yj {s:ByteArray} {k:Nat} (h:k+3≤s.size):aP s k=s.extract k (k+3):=by unfold aP; rw [Nat.min_eq_left h]
end Go.PK

namespace Go.PK
open Go Go.RowKit
theorem mm {P:Program} {w w':World} (t u ty e:TypeId) (i:TypeInfo) (ht:P.underlying t=some (.slice e)) (hu:P.underlying u=some .string) (hi:P.info? e=some i) (hz:i.zero=some (.int .u8 0)) (hsize:i.size=1) (hby:i.bytes=1)
    (v v':Value) (n:Nat) (xs:List Value) (hown:w.ownsRow 0 e 1 v n xs) (s:ByteArray) (h63:n+s.size≤maxLen) (hbytes:n+s.size≤140737488355328)
    (hr:(Builtin.append_ #[t,u] ty #[v,.string s]).run P w=.ok v' w') (h4:v'=.slice none 0 0↔v=.slice none 0 0∧s.size=0):v'.ownBlock=v.ownBlock∨v'.ownBlock=some w.heap.size:=by
  have hxl:xs.length=n:=by simpa using hown.1
  simp only [maxLen] at h63
  rcases hown.2 with ⟨rfl,rfl⟩ | ⟨g,cap,cur,rfl,_,hg,hnc,hcm,hcs,htake⟩
  · by_cases hm:s.size=0
    · exact .inl (by rw [h4.2 ⟨rfl,hm⟩])
    · have h2:=run_append_nil_string (P:=P) w t u ty e i (.int .u8 0) ht hu hi hz s (by omega) (by omega) (by rw [hby]; omega)
      rw [h2] at hr
      injection hr with h5 h6
      exact .inr (by rw [← h5]; rfl)
  · by_cases hroom:n+s.size≤cap
    · have h2:=Lib.run_append_room_string (P:=P) w t u ty e i ht hu hi hsize g n cap cur hg s hroom (by omega)
      rw [h2] at hr
      injection hr with h5 h6
      exact .inl (by rw [← h5]; rfl)
    · have holds:∀ j u,xs[j]?=some u→w.cell? ((⟨g,0,none⟩:Addr).add j)=some u:=World.ownsRow.cells hown (g:=g) rfl
      have h2:=Lib.run_append_grow_string (P:=P) w t u ty e i (.int .u8 0) ht hu hi hz ⟨g,0,none⟩ n cap xs (by rw [hsize]; simpa using hxl) holds s (by omega) (by omega) (by rw [hby]; exact growslice_fits (by omega) (by omega))
      rw [h2] at hr
      injection hr with h5 h6
      exact .inr (by rw [← h5]; rfl)
section
variable {P:Program} {b off:Nat} {t':TypeId} {n:Nat} {l:List (Nat×Value)} {own:List (Nat×Obj)} {ro:List au} {lops:List Oper} {Q:Exit→Act→World→Prop} {K:Act→World→Prop}
  {rest:List (Option Bool×Nat)} {k:Option Bool} {i d:Nat} {ty t u:TypeId} {pos:String} {af:Array Edge} {x y:Operand}
theorem rM {e:TypeId} {len:Nat} {xs:List Value} {s:ByteArray} (l1:List (Nat×Obj)) {l2:List (Nat×Obj)} (r:ak) (ho:lops[i]?=some ⟨some d,.call ⟨.builtin .append,#[x,y],#[t,u]⟩,ty,pos,af,none⟩) (hd:decide (d < n)=true)
    (hx:ev l x=some (av r len)) (hy:ev l y=some (.string s)) (hown:own=l1++aA e r++l2) (hr:ag 1 r len xs)
    (ht:P.underlying t=some (.slice e)) (hu:P.underlying u=some .string) (hi:(P.info? e).map (fun j=>(j.zero,j.size,j.bytes))=some (some (.int .u8 0),1,1))
    (hb1:len+s.size≤maxLen) (hb2:len+s.size≤140737488355328)
    (h:∀ r',ag 1 r' (len+s.size) (xs++d3 s.data.toList)→WX P lops.toArray Q K rest n ((d,av r' (len+s.size))::l) (l1++aA e r'++l2) ro):WX P lops.toArray Q K ((none,i)::rest) n l own ro:=by
  subst hown
  intro a w ha hw
  have hd':d < n:=of_decide_eq_true hd
  have hw1:=bS (lops:=lops) (n:=n) (l:=l) (o:=⟨some d,.call ⟨.builtin .append,#[x,y],#[t,u]⟩,ty,pos,af,none⟩) rfl a ha
  simp only [gW,List.getElem?_toArray,ho]
  intro w' hl'
  rw [if_pos hw1]
  have hM:=hw.later hl'
  obtain ⟨inf,hi1,hi2⟩:=Option.map_eq_some_iff.1 hi
  simp only [Prod.mk.injEq] at hi2
  obtain ⟨hiz,his,hib⟩:=hi2
  have hown:=lu (own:=[]) hM hr
  obtain ⟨v',w2,hrun,h2,h3,h4⟩:=Lib.run_append_own_string (P:=P) w' 0 t u ty e inf ht hu hi1 hiz his hib (av r len) len xs hown s hb1 hb2 (Nat.zero_le _)
  have h5:=mm (P:=P) t u ty e inf ht hu hi1 hiz his hib _ v' len xs hown s hb1 hb2 hrun h4
  obtain ⟨r',rfl,hok,hM2⟩:=hM.append h2 h3 h5
  unfold Oper.wp execOp
  simp only [resolve,invoke,builtin,Sem.run_bind,Sem.run_pure,Result.andThen_ok,List.map_toArray,List.map_cons,List.map_nil,ha.eval hx,ha.eval hy,hrun]
  exact h r' hok _ _ (ha.put _ hd') hM2
end
theorem tD {P:Program} {n:Nat} {l:List (Nat×Value)} {own:List (Nat×Obj)} {ro:List au} {ty t t':TypeId} {x:Operand} {e E:TypeId} {m:Nat} {r:ak} (bs:List UInt8) (hs:P.underlying t=some (.slice e)) (he:P.underlying e=some (.int .u8)) (hd:P.underlying t'=some .string) (hx:ev l x=some (av r m)) (hr:ag 1 r m (d3 bs)) (hm:m=bs.length)
    (hown:∀ q∈aA E r,q∈own):cv P n l own ro (.convert t t' x) ty (.string ⟨bs.toArray⟩):=by
  subst hm
  cases r with
  | none =>
    have h0:bs=[]:=List.eq_nil_of_length_eq_zero hr.2
    subst h0
    intro A w o ha hw ho _
    have h1:=run_convert_bytes_nil (P:=P) w t e hs he ([]:List UInt8).length 0 t' hd
    have hx2:A.eval x=.slice none ([]:List UInt8).length 0:=ha.eval hx
    simp only [execOp,ho,hx2,h1,Sem.run_bind,Result.andThen_ok]
    rfl
  | some z =>
    obtain ⟨b,cs,c⟩:=z
    obtain ⟨h1,h2,h3,h4,h5⟩:=hr
    dsimp only at h2 h3 h4 h5
    refine jc (b:=b) (off:=0) bs hs he hd hx rfl fun j hj=>ab (vs:=cs) (hown (b,Obj.cells cs.toArray E (0,0)) (by simp [aA])) ?_
    have h6:=rq hj
    rw [← h5,List.getElem?_take,if_pos (by omega)] at h6
    rw [Nat.zero_add]; exact h6
end Go.PK

namespace Go.PK
open Go Go.RowKit
def bl (s:ByteArray):List UInt8:=s.data.toList
theorem a7 (s:ByteArray):(bl s).length=s.size:=by unfold bl; simp
theorem ft (s:ByteArray):(⟨(bl s).toArray⟩:ByteArray)=s:=by unfold bl; simp
theorem mT (l:List UInt8):bl ⟨l.toArray⟩=l:=by unfold bl; simp
theorem io {s:ByteArray} {k:Nat} (h:k < (bl s).length):(bl s)[k]=ad s k:=by
  unfold bl ad at *; rw [List.getD_eq_getElem?_getD,List.getElem?_eq_getElem h]; rfl
theorem wK (bs:List UInt8) (s:ByteArray):(⟨bs.toArray⟩:ByteArray)++s=⟨(bs++bl s).toArray⟩:=by
  rw [ByteArray.ext_iff]; simp [bl]
def pP (c:UInt8):List UInt8:=if mS c then [63,c] else [c]
def eA (l:List UInt8):List UInt8:=l.flatMap pP
theorem iK (c:UInt8) (l:List UInt8):eA (c::l)=pP c++eA l:=rfl
def mn (c:UInt8):List ByteArray→List UInt8
  | []=>[]
  | t::ts=>c::(eA (bl t)++mn 58 ts)
def sgT (x:Seg):List UInt8:=bl x.tag++(x.els.flatMap (mn 43)++[39])
def co (x:Seg):Bool:=decide (x.tag.size=3) && !(bl x.tag).any (fun c=>!ez c) && !x.els.any List.isEmpty
def lH:ByteArray:=⟨#[85,78,65]⟩
def ju (k:Nat) (x:Seg):Prop:=co x=true∧¬(k=0∧x.tag=lH)
instance (k:Nat) (x:Seg):Decidable (ju k x):=by unfold ju; infer_instance
abbrev WrR:=ByteArray×Int
def fR (l:List Seg):List UInt8:=l.flatMap sgT
def uK (l:List Seg):WrR :=
  if l.length > 10000 then (⟨#[]⟩,2)
  else if ∀ k (h:k < l.length),ju k l[k] then (⟨(fR l).toArray⟩,0) else (⟨#[]⟩,1)
theorem wrR_many {l:List Seg} (h:l.length > 10000):uK l=(⟨#[]⟩,2):=by unfold uK; rw [if_pos h]
theorem rN {l:List Seg} {k:Nat} (h:¬l.length > 10000) (hk:k < l.length) (hb:¬ju k l[k]):uK l=(⟨#[]⟩,1):=by
  unfold uK; rw [if_neg h,if_neg (fun h2=>hb (h2 k hk))]
theorem wrR_ok {l:List Seg} (h:¬l.length > 10000) (hg:∀ k (h:k < l.length),ju k l[k]):uK l=(⟨(fR l).toArray⟩,0):=by
  unfold uK; rw [if_neg h,if_pos hg]
theorem wrT_drop {l:List Seg} {k:Nat} (h:k < l.length):fR (l.drop k)=bl l[k].tag++(l[k].els.flatMap (mn 43)++([39]++fR (l.drop (k+1)))):=by
  unfold fR; rw [List.drop_eq_getElem_cons h,List.flatMap_cons]; unfold sgT; simp only [List.append_assoc]
theorem els_drop {x:List (List ByteArray)} {j:Nat} (h:j < x.length):(x.drop j).flatMap (mn 43)=mn 43 x[j]++(x.drop (j+1)).flatMap (mn 43):=by
  rw [List.drop_eq_getElem_cons h,List.flatMap_cons]
theorem elT_drop {e:List ByteArray} {i:Nat} {c:UInt8} (h:i < e.length):mn c (e.drop i)=c::(eA (bl e[i])++mn 58 (e.drop (i+1))):=by
  rw [List.drop_eq_getElem_cons h]; rfl
theorem esc_drop {t:ByteArray} {m:Nat} (h:m < t.size):eA ((bl t).drop m)=pP (ad t m)++eA ((bl t).drop (m+1)):=by
  have h2:m < (bl t).length:=by rw [a7]; exact h
  rw [List.drop_eq_getElem_cons h2,iK,io h2]
theorem n0 {α:Type} {l:List α} {k:Nat} (h:¬k < l.length):l.drop k=[]:=List.drop_eq_nil_of_le (by omega)
theorem tG {x:Seg} (h:co x=true):x.tag.size=3:=by
  unfold co at h; simp only [Bool.and_eq_true,decide_eq_true_eq] at h; exact h.1.1
theorem Mem.perm {w:World} {own own':List (Nat×Obj)} {ro:List au} (h:Mem w own ro) (p:own.Perm own'):Mem w own' ro where
  own_at:=fun q hq=>h.own_at q (p.mem_iff.2 hq)
  own_nd:=(p.map (·.1)).nodup_iff.1 h.own_nd
  ro_st:=h.ro_st
  ro_at:=h.ro_at
  apart:=fun q hq=>h.apart q (p.mem_iff.2 hq)
theorem len_le {a b c:List UInt8} {N:Nat} (h:a++b=c) (hc:c.length≤N):a.length≤N:=by
  have:=congrArg List.length h; rw [List.length_append] at this; omega
theorem cP (l:List UInt8):(⟨l.toArray⟩:ByteArray).size=l.length:=List.size_toArray
theorem iL (a b:List UInt8):(⟨a.toArray⟩:ByteArray)++⟨b.toArray⟩=⟨(a++b).toArray⟩:=by rw [wK,mT]
theorem any3:∀ (l:List UInt8),l.length=3→l.any (fun c=>!ez c)=!(ez (l.getD 0 0) && ez (l.getD 1 0) && ez (l.getD 2 0))
  | [a,b,c],_=>by simp [Bool.not_and,Bool.or_assoc]
theorem wL {t:ByteArray} (h:t.size=3):(bl t).any (fun c=>!ez c)=!(ez (ad t 0) && ez (ad t 1) && ez (ad t 2)):=any3 (bl t) (by rw [a7,h])
theorem wM:∀ (l:List UInt8),l.length≤(eA l).length
  | []=>Nat.le_refl _
  | c::l=>by
    have:=wM l
    have h2:1≤(pP c).length:=by unfold pP; split <;> simp
    rw [iK,List.length_append,List.length_cons]; omega
def sepB (i:Nat):UInt8:=if i=0 then 43 else 58
end Go.PK

namespace Go.PK
open Go Go.RowKit
theorem vd (w:World) (n:Nat) (os:Array Obj):Later w (Sort.grow (w.drewN n) os) where
  os:=rfl
  tape:=rfl
  output:=rfl
  size:=by rw [Sort.size_grow]; show w.heap.size≤w.heap.size+os.size; omega
  block:=fun k hk=>by
    show (w.heap++os)[k]?=w.heap[k]?
    rw [Array.getElem?_append_left hk]
theorem tH (w:World) (o:Obj):Later w (w.alloc o) where
  os:=rfl
  tape:=rfl
  output:=rfl
  size:=by show w.heap.size≤(w.heap.push o).size; rw [Array.size_push]; omega
  block:=fun k hk=>by
    show (w.heap.push o)[k]?=w.heap[k]?
    rw [Array.getElem?_push,if_neg (by omega)]
theorem alloc_at (w:World) (o:Obj):(w.alloc o).heap[w.heap.size]?=some o:=by
  show (w.heap.push o)[w.heap.size]?=_
  simp
def ai (n:Int):ByteArray:=⟨(Lib.itoa n).toArray⟩
theorem bo {n:Int} (h:aj n):(ai n).size≤21:=by
  unfold ai; rw [cP]; exact Lib.itoa_length_le n h.1 h.2
def jv:ByteArray:=⟨#[58]⟩
def aM (e:ByteArray):List ByteArray:=Lib.splitB jv 0 (Lib.countB e jv) e
theorem ve (e:ByteArray):(aM e).length=Lib.countB e jv+1:=Lib.splitB_all jv (by decide) 0 _ e rfl
theorem mU (sep:ByteArray):∀ (k:Nat) (s:ByteArray),∀ p∈Lib.splitB sep 0 k s,p.size≤s.size
  | 0,s,p,h=>by rw [Lib.splitB_zero,List.mem_singleton] at h; rw [h]; exact Nat.le_refl _
  | k+1,s,p,h=>by
    unfold Lib.splitB at h
    split at h
    · rw [List.mem_singleton] at h; rw [h]; exact Nat.le_refl _
    · rcases List.mem_cons.1 h with rfl | h
      · rw [ByteArray.size_extract]; omega
      · have:=mU sep k _ p h
        rw [ByteArray.size_extract] at this; omega
theorem yk {e:ByteArray} (h:iw e):∀ p∈aM e,iw p:=fun p hp=>by
  have:=mU _ _ _ p hp
  unfold iw at *; omega
structure Ord where
  id:Int
  fund:Int
  src:Int
  num:Int
  copies:Int
  price:Int
  prom:Int
  paid:Int
  st:Int
deriving DecidableEq
def Ord.cells (o:Ord):List Value:=[.int .i64 o.id,.int .i64 o.fund,.int .i64 o.src,.int .i64 o.num,.int .i64 o.copies,.int .i64 o.price,.int .i64 o.prom,.int .i64 o.paid,.int .i64 o.st]
def Ord.ok (o:Ord):Prop:=aj o.id∧aj o.fund∧aj o.src∧aj o.num∧aj o.copies∧aj o.price
def wi (a b:Int) (l:List Int):Bool:=!l.any (fun n=>decide (n < a) || decide (n > b))
def bT (o:Ord):Bool:=wi 1 999999999 [o.id,o.fund] && wi 0 999999999 [o.src,o.num,o.price] && wi 1 9999 [o.copies]
def kw (s n:Int):ByteArray:=((ai s++⟨#[46]⟩)++ai n)++⟨#[58,83,82,86]⟩
theorem qu {s n:Int} (h1:aj s) (h2:aj n):(kw s n).size≤60:=by
  have a:=bo h1; have b:=bo h2
  unfold kw
  rw [ByteArray.size_append,ByteArray.size_append,ByteArray.size_append]
  have e1:(⟨#[46]⟩:ByteArray).size=1:=rfl
  have e2:(⟨#[58,83,82,86]⟩:ByteArray).size=4:=rfl
  omega
def eB (o:Ord):List Seg :=
  [⟨⟨#[85,78,72]⟩,[aM (⟨#[49]⟩),aM (⟨#[79,82,68,69,82,83,58,68,58,57,54,65,58,85,78]⟩)]⟩,
   ⟨⟨#[66,71,77]⟩,[aM (⟨#[50,50,48]⟩),aM (ai o.id)]⟩,
   ⟨⟨#[76,73,78]⟩,[aM (⟨#[49]⟩),aM (⟨#[]⟩),aM (kw o.src o.num)]⟩,
   ⟨⟨#[81,84,89]⟩,[aM (⟨#[50,49,58]⟩++ai o.copies)]⟩,
   ⟨⟨#[80,82,73]⟩,[aM (⟨#[65,65,65,58]⟩++ai o.price)]⟩,
   ⟨⟨#[82,70,70]⟩,[aM (⟨#[66,70,78,58]⟩++ai o.fund)]⟩,
   ⟨⟨#[85,78,84]⟩,[aM (⟨#[55]⟩),aM (⟨#[49]⟩)]⟩]
def aT (o:Ord):List Seg:=if bT o then eB o else []
inductive RdAll {α:Type} (T:Ty α) (D:Nat→Prop) (w:World):List (List Value)→List α→Prop where
  | nil:RdAll T D w [] []
  | cons {c:List Value} {x:α} {css:List (List Value)} {xs:List α} (h:T.rd D w c x) (t:RdAll T D w css xs):RdAll T D w (c::css) (x::xs)
theorem RdAll.len {α:Type} {T:Ty α} {D:Nat→Prop} {w:World}:∀ {css:List (List Value)} {xs:List α},RdAll T D w css xs→css.length=xs.length∧css.flatten.length=xs.length*T.size
  | [],[],.nil=>⟨rfl,by simp⟩
  | _::_,_::_,.cons h t=>by
    have ih:=t.len
    have:=T.len h
    refine ⟨by simp [ih.1],?_⟩
    rw [List.flatten_cons,List.length_append,ih.2,this,List.length_cons,Nat.succ_mul,Nat.add_comm]
theorem RdAll.at {α:Type} {T:Ty α} {D:Nat→Prop} {w:World}:∀ {css:List (List Value)} {xs:List α},RdAll T D w css xs→∀ j (h1:j < css.length) (h2:j < xs.length),T.rd D w css[j] xs[j]
  | _,_,.nil,_,h,_=>by simp at h
  | _,_,.cons h t,0,_,_=>h
  | _,_,.cons h t,j+1,h1,h2=>t.at j (by simpa using h1) (by simpa using h2)
theorem RdAll.rd {α:Type} {T:Ty α} {w:World} {own:List (Nat×Obj)} {ro:List au} {e:TypeId} {b n:Nat} {css:List (List Value)} {xs:List α} {w0:World} (h:RdAll T (dy w0 own) w css xs) (hm:Mem w own ro) (hin:(b,Obj.cells css.flatten.toArray e)∈own) (hb:(w0,fun _=>True)∈ro) (hn:n=xs.length) (hx:xs.length≤maxLen) :
    aa T (fun b=>w0.heap.size≤b) w (.slice (some ⟨b,0,none⟩) n n) xs:=by
  subst hn
  have hl:=h.len
  have hT:cU T (dy w0 own) w (some (b,css.flatten,xs.length)) xs:=⟨css,hl.1,cA hl.2 hx,h.at⟩
  exact hT.rd hm (fun p hp=>by rw [List.mem_singleton.1 hp]; exact hin) (fun _ h=>h.1) (fun p hp=>by rw [List.mem_singleton.1 hp]; exact hm.newer hb hin) rfl
end Go.PK

namespace Go.PK
open Go Go.RowKit
theorem dP {α:Type} {l:List α} {k:Nat} {d:α} (h:k < l.length):l.getD k d=l[k]:=by rw [List.getD_eq_getElem?_getD,List.getElem?_eq_getElem h]; rfl
end Go.PK

namespace Go.PK
open Go Go.RowKit
section
variable {P:Program} {n:Nat} {l:List (Nat×Value)} {own:List (Nat×Obj)} {ro:List au} {ty t t':TypeId} {x y:Operand} {k k':IntKind} {a b:Int}
theorem v_conv64 {td:TypeDesc} (hs:P.underlying t=some td) (hd:P.underlying t'=some (.int .i64)) (hx:ev l x=some (.int k a)) (h:-9223372036854775808≤a∧a≤9223372036854775807):cv P n l own ro (.convert t t' x) ty (.int .i64 a):=by
  have:=l7 (n:=n) (own:=own) (ro:=ro) (ty:=ty) hs hd hx
  rwa [eK h] at this
theorem mo {a b:Nat} (hx:ev l x=some (.int k (a:Nat))) (hy:ev l y=some (.int k (b:Nat))) (h0:b≠0):cv P n l own ro (.binOp .rem t x y t') ty (.int k ((a%b:Nat):Int)) :=
  jG hx hy (by omega)
theorem v_quoN {a b:Nat} (hx:ev l x=some (.int .i64 (a:Nat))) (hy:ev l y=some (.int .i64 (b:Nat))) (h0:b≠0) (h:a≤9223372036854775807):cv P n l own ro (.binOp .quo t x y t') ty (.int .i64 ((a / b:Nat):Int)) :=
  ij (c:=((a / b:Nat):Int)) hx hy (by omega) rfl (by have h2:=Nat.div_le_self a b; generalize a / b=q at h2 ⊢; constructor <;> omega)
theorem tI {e:TypeId} {A:Option Addr} {len cap i m:Nat} {kk:IntKind} (ht:P.underlying t=some (.slice e)) (hs:(P.info? e).map (·.size)=some m) (hx:ev l x=some (.slice A len cap)) (hy:ev l y=some (.int kk (i:Nat))) (hi:i≤len) (hc:len≤cap) :
    cv P n l own ro (.slice t x (some y) none none) ty (.slice (if cap=i then A else A.map (fun a=>a.add (i*m))) (len - i) (cap - i)):=by
  intro a w o ha hw ho _
  have h2:(Instr.sliceAt t (.slice A len cap) (some (.int kk (i:Nat))) none none).run P w=.ok (.slice (if cap=i then A else A.map (fun a=>a.add (i*m))) (len - i) (cap - i)) w:=by
    simp [Instr.sliceAt,Instr.slice,Instr.sliceBounds,Instr.sliceBound,asIntOf,run_underlying ht,hi,run_sizeOf hs]
  simp [execOp,ho,ha.eval hx,ha.eval hy,h2]
theorem nl {a b:List UInt8} (hx:ev l x=some (.string ⟨a.toArray⟩)) (hy:ev l y=some (.string ⟨b.toArray⟩)) (h:a.length+b.length≤9223372036854775807):cv P n l own ro (.binOp .add t x y t') ty (.string ⟨(a++b).toArray⟩):=by
  rw [← iL]
  exact cG hx hy (by rw [cP,cP]; exact h)
end
end Go.PK

namespace Go.PK
open Go Go.RowKit
theorem bv {s:ByteArray} (h:s.size≤100000):iw s:=by unfold iw; omega
theorem gG {α:Type} {T:Ty α} {D:Nat→Prop} {w:World} {own:List (Nat×Obj)} {ro:List au} {b n:Nat} {e:TypeId} (css:List (List Value)) {xs:List α} (hm:Mem w own ro) (hb:(b,Obj.cells css.flatten.toArray e)∈own)
    (hn:n=xs.length) (hmx:xs.length≤9223372036854775807) (hD:D b) (hrd:qb T D w css xs):aa T D w (.slice (some ⟨b,0,none⟩) n n) xs :=
  lits_rd css (hm.own_at _ hb) rfl hn hmx hD hrd
theorem eU {α:Type} {T:Ty α} {w w0:World} {own:List (Nat×Obj)} {ro:List au} {b n:Nat} {e:TypeId} (css:List (List Value)) {xs:List α} (hm:Mem w own ro) (hs:(w0,fun _=>True)∈ro) (hb:(b,Obj.cells css.flatten.toArray e)∈own)
    (hn:n=xs.length) (hmx:xs.length≤9223372036854775807) (hrd:qb T (fun b=>w0.heap.size≤b) w css xs):aa T (fun b=>w0.heap.size≤b) w (.slice (some ⟨b,0,none⟩) n n) xs :=
  gG css hm hb hn hmx (hm.newer hs hb) hrd
end Go.PK

namespace Go.PK
open Go Go.RowKit
def iM (c:UInt8):Bool:=decide (48≤c.toNat∧c.toNat≤57)
def fu (l:List UInt8) (a:Nat):Nat:=l.foldl (fun a c=>10*a+(c.toNat - 48)) a
theorem mp (l:List UInt8) (c:UInt8) (a:Nat):fu (l++[c]) a=10*fu l a+(c.toNat - 48):=by simp [fu]
def fw (l:List UInt8):Prop:=l≠[]∧(∀ c∈l,iM c=true)∧(1 < l.length→l.head?≠some 48)
instance (l:List UInt8):Decidable (fw l):=by unfold fw; infer_instance
theorem oc {d:Nat} (h:d < 10):(UInt8.ofNat (48+d)).toNat=48+d:=by
  rw [UInt8.toNat_ofNat_of_lt' (by show _ < 256; omega)]
theorem tJ {d:Nat} (h:d < 10):iM (UInt8.ofNat (48+d))=true:=by
  unfold iM; rw [oc h]; exact decide_eq_true (by omega)
theorem tK {c:UInt8} (h:iM c=true):UInt8.ofNat (48+(c.toNat - 48))=c:=by
  have:=of_decide_eq_true h
  rw [show 48+(c.toNat - 48)=c.toNat by omega]
  exact UInt8.ofNat_toNat
theorem eG {u:Nat} (h:u < 10):Lib.decDigits u=[UInt8.ofNat (48+u)]:=by rw [Lib.decDigits,dif_pos h]
theorem j9 {u:Nat} (h:¬u < 10):Lib.decDigits u=Lib.decDigits (u / 10)++[UInt8.ofNat (48+u%10)]:=by rw [Lib.decDigits,dif_neg h]
theorem wO:∀ (n u:Nat),u≤n→fu (Lib.decDigits u) 0=u
  | 0,u,h=>by rw [eG (by omega)]; show 10*0+((UInt8.ofNat (48+u)).toNat - 48)=u; rw [oc (by omega)]; omega
  | n+1,u,h=>by
    by_cases hu:u < 10
    · rw [eG hu]; show 10*0+((UInt8.ofNat (48+u)).toNat - 48)=u; rw [oc hu]; omega
    · rw [j9 hu,mp,wO n (u / 10) (by omega),oc (by omega)]; omega
theorem mq:∀ (n u:Nat),u≤n→fw (Lib.decDigits u)∧(0 < u→(Lib.decDigits u).head?≠some 48)
  | n,u,h=>by
    by_cases hu:u < 10
    · rw [eG hu]
      refine ⟨⟨by simp,fun c hc=>by rw [List.mem_singleton.1 hc]; exact tJ hu,fun h=>by simp at h⟩,fun h0 h1=>?_⟩
      have h1:UInt8.ofNat (48+u)=48:=by simpa using h1
      have:=congrArg UInt8.toNat h1
      rw [oc hu] at this
      have e:(48:UInt8).toNat=48:=rfl
      omega
    · match n with
      | 0=>omega
      | n+1 =>
        obtain ⟨⟨a1,a2,a3⟩,a4⟩:=mq n (u / 10) (by omega)
        rw [j9 hu]
        have hh:(Lib.decDigits (u / 10)++[UInt8.ofNat (48+u%10)]).head?=(Lib.decDigits (u / 10)).head?:=by
          cases hd:Lib.decDigits (u / 10) with
          | nil=>exact absurd hd a1
          | cons x l=>rfl
        refine ⟨⟨by simp,fun c hc=>?_,fun _=>by rw [hh]; exact a4 (by omega)⟩,fun _=>by rw [hh]; exact a4 (by omega)⟩
        rcases List.mem_append.1 hc with hc | hc
        · exact a2 c hc
        · rw [List.mem_singleton.1 hc]; exact tJ (by omega)
theorem qx:∀ (n:Nat) (l:List UInt8),l.length≤n→fw l→Lib.decDigits (fu l 0)=l
  | 0,l,h,hc=>absurd (List.eq_nil_of_length_eq_zero (by omega)) hc.1
  | n+1,l,h,hc=>by
    obtain ⟨h1,h2,h3⟩:=hc
    rcases List.eq_nil_or_concat l with rfl | ⟨m,c,rfl⟩
    · exact absurd rfl h1
    · rw [List.concat_eq_append] at h h2 h3 ⊢
      have hcd:iM c=true:=h2 c (by simp)
      have hcr:=of_decide_eq_true hcd
      rw [mp]
      by_cases hm:m=[]
      · subst hm
        show Lib.decDigits (10*0+(c.toNat - 48))=[c]
        rw [eG (by omega),show 10*0+(c.toNat - 48)=c.toNat - 48 by omega,tK hcd]
      · have hcm:fw m:=by
          refine ⟨hm,fun x hx=>h2 x (List.mem_append_left _ hx),fun hl=>?_⟩
          have h4:=h3 (by rw [List.length_append,List.length_singleton]; omega)
          cases m with
          | nil=>exact absurd rfl hm
          | cons x m=>exact h4
        have ih:=qx n m (by rw [List.length_append,List.length_singleton] at h; omega) hcm
        have hpos:0 < fu m 0:=by
          rcases Nat.eq_zero_or_pos (fu m 0) with h0 | h0
          · exfalso
            rw [h0,eG (by omega)] at ih
            rw [← ih] at h3
            exact h3 (by simp) rfl
          · exact h0
        rw [j9 (by omega),show (10*fu m 0+(c.toNat - 48)) / 10=fu m 0 by omega,ih,show (10*fu m 0+(c.toNat - 48))%10=c.toNat - 48 by omega,tK hcd]
theorem rP:∀ (k u:Nat),(Lib.decDigits u).length≤k+1↔u < 10 ^ (k+1)
  | 0,u=>by
    by_cases hu:u < 10
    · rw [eG hu]; simp; omega
    · rw [j9 hu]
      have:=(mq _ (u / 10) (Nat.le_refl _)).1.1
      have h2:=List.length_pos_iff.2 this
      rw [List.length_append,List.length_singleton]
      constructor
      · intro h; omega
      · intro h; simp at h; omega
  | k+1,u=>by
    by_cases hu:u < 10
    · rw [eG hu]
      have:10 ^ 1≤10 ^ (k+1+1):=Nat.pow_le_pow_right (by decide) (by omega)
      simp; omega
    · rw [j9 hu,List.length_append,List.length_singleton]
      have ih:=rP k (u / 10)
      have e:10 ^ (k+1+1)=10*10 ^ (k+1):=by rw [Nat.pow_succ,Nat.mul_comm]
      rw [e]
      constructor
      · intro h; have:=ih.1 (by omega); omega
      · intro h; have:=ih.2 (by omega); omega
theorem tL:∀ (l:List UInt8) (k a:Nat),(∀ c∈l,iM c=true)→a < 10 ^ k→k+l.length≤18→Lib.parseUint10 a l=.ok (fu l a)
  | [],_,_,_,_,_=>rfl
  | c::l,k,a,hd,ha,hk=>by
    have hc:=of_decide_eq_true (hd c (List.mem_cons_self ..))
    have e:10 ^ (k+1)=10*10 ^ k:=by rw [Nat.pow_succ,Nat.mul_comm]
    have hp:10 ^ (k+1)≤10 ^ 18:=Nat.pow_le_pow_right (by decide) (by rw [List.length_cons] at hk; omega)
    have hp2:(10:Nat) ^ 18=1000000000000000000:=by decide
    rw [Lib.parseUint10,if_pos hc,if_neg (by omega),if_neg (by omega)]
    rw [tL l (k+1) (a*10+(c.toNat - 48)) (fun x hx=>hd x (List.mem_cons_of_mem _ hx)) (by omega) (by rw [List.length_cons] at hk; omega)]
    show Lib.NumEnd.ok (fu l _)=.ok (fu l (10*a+(c.toNat - 48)))
    rw [Nat.mul_comm a 10]
theorem tM {l:List UInt8} (h:fw l) (hk:l.length≤18):Lib.atoiAll l=.ok ((fu l 0:Nat):Int):=by
  obtain ⟨h1,h2,_⟩:=h
  cases l with
  | nil=>exact absurd rfl h1
  | cons c r =>
    have hc:=of_decide_eq_true (h2 c (List.mem_cons_self ..))
    have hp:=tL (c::r) 0 0 h2 (by decide) (by omega)
    unfold Lib.atoiAll
    dsimp only
    rw [if_neg (by omega)]
    unfold Lib.parseMag
    rw [if_neg (by simp),hp]
    dsimp only
    have hlt:fu (c::r) 0 < 10 ^ 18:=by
      have key:∀ (l:List UInt8) (k a:Nat),(∀ c∈l,iM c=true)→a < 10 ^ k→fu l a < 10 ^ (k+l.length):=by
        intro l
        induction l with
        | nil=>intro k a _ ha; exact ha
        | cons x l ih =>
          intro k a hd ha
          have hx:=of_decide_eq_true (hd x (List.mem_cons_self ..))
          have e:10 ^ (k+1)=10*10 ^ k:=by rw [Nat.pow_succ,Nat.mul_comm]
          have:=ih (k+1) (10*a+(x.toNat - 48)) (fun y hy=>hd y (List.mem_cons_of_mem _ hy)) (by omega)
          rw [List.length_cons,show k+(l.length+1)=k+1+l.length by omega]
          exact this
      have h3:=key (c::r) 0 0 h2 (by decide)
      have h4:10 ^ (0+(c::r).length)≤10 ^ 18:=Nat.pow_le_pow_right (by decide) (by omega)
      omega
    have hp2:(10:Nat) ^ 18=1000000000000000000:=by decide
    rw [if_neg (by omega),if_neg (by omega),if_neg (by omega)]
def cx (s:ByteArray):Int:=match Lib.atoiAll (bl s) with | .ok v=>if s.size≤18 then v else -1 | _=>-1
theorem mV {s:ByteArray} (h:fw (bl s)) (hk:s.size≤18):cx s=((fu (bl s) 0:Nat):Int):=by
  unfold cx
  rw [tM h (by rw [a7]; exact hk)]
  dsimp only
  rw [if_pos hk]
theorem vf {s:ByteArray} (h:0≤cx s):s.size≤18:=by
  unfold cx at h
  split at h
  · split at h
    · assumption
    · omega
  · omega
theorem qy (u:Nat):ai (u:Int)=⟨(Lib.decDigits u).toArray⟩:=by
  unfold ai Lib.itoa; rw [if_neg (by omega),Int.toNat_natCast]
theorem od {n:Int} (h:0≤n):bl (ai n)=Lib.decDigits n.toNat:=by
  unfold ai Lib.itoa; rw [if_neg (by omega)]; rfl
theorem jl {n:Int} (h:0≤n):fw (bl (ai n)):=by rw [od h]; exact (mq _ _ (Nat.le_refl _)).1
theorem tN {n:Int} (h:0≤n):((fu (bl (ai n)) 0:Nat):Int)=n:=by rw [od h,wO _ _ (Nat.le_refl _)]; omega
theorem lI {n:Int} (h:0≤n) (k:Nat):(ai n).size≤k+1↔n < 10 ^ (k+1):=by
  rw [← a7,od h,rP]
  constructor
  · intro h2
    have h3:((n.toNat:Nat):Int) < ((10 ^ (k+1):Nat):Int):=Int.ofNat_lt.2 h2
    rw [Int.toNat_of_nonneg h] at h3
    simpa using h3
  · intro h2
    have h3:((n.toNat:Nat):Int) < ((10 ^ (k+1):Nat):Int):=by rw [Int.toNat_of_nonneg h]; simpa using h2
    exact Int.ofNat_lt.1 h3
theorem oe {s:ByteArray} (h:fw (bl s)):ai ((fu (bl s) 0:Nat):Int)=s:=by
  rw [qy,qx _ _ (Nat.le_refl _) h,ft]
theorem vg {n:Int} (h:0≤n) (h2:n < 1000000000000000000):cx (ai n)=n:=by
  rw [mV (jl h) ((lI h 17).2 (by have:(10:Int) ^ (17+1)=1000000000000000000:=(by decide); omega)),tN h]
def dR (s:ByteArray) (most:Nat):Int×Bool:=if fw (bl s)∧s.size≤most then (((fu (bl s) 0:Nat):Int),true) else (0,false)
theorem qz {n:Int} (h:0≤n) (k:Nat) (h2:n < 10 ^ (k+1)):dR (ai n) (k+1)=(n,true):=by
  unfold dR; rw [if_pos ⟨jl h,(lI h k).2 h2⟩,tN h]
theorem wP {s:ByteArray} {m:Nat} (h:(dR s m).2=true):ai (dR s m).1=s∧0≤(dR s m).1∧s.size≤m∧fw (bl s):=by
  unfold dR at h ⊢
  split
  · rename_i hc; exact ⟨oe hc.1,Int.natCast_nonneg _,hc.2,hc.1⟩
  · rename_i hc; rw [if_neg hc] at h; cases h
theorem kM {e:ByteArray} (h:∀ c∈bl e,c≠58):aM e=[e]:=by
  unfold aM
  have:Lib.countB e jv=0:=by
    show Lib.count (bl e) [58]=0
    rw [Lib.count_one,List.count_eq_zero]
    exact fun hc=>h 58 hc rfl
  rw [this,Lib.splitB_zero]
theorem ip (a b:ByteArray):bl (a++b)=bl a++bl b:=by
  unfold bl; rw [ByteArray.data_append,Array.toList_append]
theorem qA (a b:ByteArray):(a++b).extract 0 a.size=a:=by
  have:bl ((a++b).extract 0 a.size)=bl a:=by
    show ((a++b).extract 0 a.size).data.toList=_
    rw [ByteArray.data_extract,Array.toList_extract,List.extract_eq_take_drop]
    show ((bl (a++b)).drop 0).take (a.size - 0)=_
    rw [ip,List.drop_zero,Nat.sub_zero,← a7 a,List.take_left]
  rw [← ft ((a++b).extract 0 a.size),this,ft]
theorem qB (a b:ByteArray):(a++b).extract a.size (a++b).size=b:=by
  have:bl ((a++b).extract a.size (a++b).size)=bl b:=by
    show ((a++b).extract a.size (a++b).size).data.toList=_
    rw [ByteArray.data_extract,Array.toList_extract,List.extract_eq_take_drop]
    show ((bl (a++b)).drop a.size).take _=_
    rw [ip,← a7 a,List.drop_left,ByteArray.size_append,← a7 a,← a7 b,Nat.add_sub_cancel_left,List.take_length]
  rw [← ft ((a++b).extract a.size (a++b).size),this,ft]
theorem og:∀ (a b:List UInt8) (x:UInt8),(∀ c∈a,c≠x)→Lib.indexByte (a++x::b) x=(a.length:Nat)
  | [],b,x,_=>by show Lib.indexByte (x::b) x=0; unfold Lib.indexByte; rw [if_pos (by simp)]
  | y::a,b,x,h=>by
    have ih:=og a b x (fun c hc=>h c (List.mem_cons_of_mem _ hc))
    have hy:=h y (List.mem_cons_self ..)
    show Lib.indexByte (y::(a++x::b)) x=_
    unfold Lib.indexByte
    rw [if_neg (by simpa using hy),ih,if_neg (by simp),List.length_cons]
    omega
theorem idx_sep (a b:ByteArray) (x:UInt8) (h:∀ c∈bl a,c≠x):Lib.indexB ((a++⟨#[x]⟩)++b) ⟨#[x]⟩=(a.size:Nat):=by
  show Lib.index (bl ((a++⟨#[x]⟩)++b)) [x]=_
  rw [Lib.index_one,ip,ip,List.append_assoc]
  show Lib.indexByte (bl a++x::bl b) x=_
  rw [og _ _ _ h,a7]
theorem mr {a b:ByteArray} (ha:∀ c∈bl a,c≠58) (hb:∀ c∈bl b,c≠58):aM ((a++⟨#[58]⟩)++b)=[a,b]:=by
  unfold aM
  have:Lib.countB ((a++⟨#[58]⟩)++b) jv=1:=by
    show Lib.count (bl ((a++⟨#[58]⟩)++b)) [58]=1
    rw [Lib.count_one,ip,ip,List.count_append,List.count_append,List.count_eq_zero.2 (fun hc=>ha 58 hc rfl),List.count_eq_zero.2 (fun hc=>hb 58 hc rfl)]
    rfl
  rw [this,Lib.splitB_hit jv 0 0 _ a.size (idx_sep a b 58 ha),Lib.splitB_zero]
  have e1:jv.size=1:=rfl
  have e2:a.size+jv.size=(a++(⟨#[58]⟩:ByteArray)).size:=by rw [ByteArray.size_append,e1]; rfl
  rw [e2,qB,Nat.add_zero,ByteArray.append_assoc,qA]
theorem dig_ne {c x:UInt8} (h:iM c=true) (hx:x.toNat < 48∨57 < x.toNat):c≠x:=fun e=>by
  have:=of_decide_eq_true h
  rw [e] at this; omega
theorem hZ {n:Int} (h:0≤n) {x:UInt8} (hx:x.toNat < 48∨57 < x.toNat):∀ c∈bl (ai n),c≠x:=fun c hc=>dig_ne ((jl h).2.1 c hc) hx
end Go.PK

namespace Go.PK
open Go Go.RowKit
def Ord.okA (o:Ord):Prop:=o.ok∧aj o.prom∧aj o.paid∧aj o.st
def dA:Ty Ord where
  size:=9
  rd:=fun _ _ cs o=>cs=o.cells∧o.okA
  len:=fun h=>by rw [h.1]; rfl
  keep:=fun h _=>h
theorem jR {D:Nat→Prop} {w:World} {A:Option Addr} {l c:Nat} {xs:List Ord} (h:aa dA D w (.slice A l c) xs) {k:Nat} (hk:k < xs.length) :
    ∃ b off,A=some ⟨b,off,none⟩∧D b∧(∀ i (hi:i < 9),w.cell? ⟨b,off+k*9+i,none⟩=some (xs[k].cells[i]'hi))∧xs[k].okA:=by
  obtain ⟨A',c',e,h1,h2,h3⟩:=h
  injection e with e1 e2 e3
  subst e1 e2 e3
  obtain ⟨b,off,rfl,hD,hb,hc⟩:=h3 (by omega)
  obtain ⟨cs,hcs,rfl,hok⟩:=hc k hk
  exact ⟨b,off,rfl,hD,fun i hi=>hcs i hi,hok⟩
def tO (l:List Seg) (n e c:Nat):Option ByteArray:=((l[n]?).bind fun x=>x.els[e]?).bind fun y=>y[c]?
def kD (l:List Seg) (n e c:Nat):ByteArray:=(tO l n e c).getD ⟨#[]⟩
def ka (l:List Seg) (n e c:Nat):Int×Bool:=match tO l n e c with | some s=>dR s 9 | none=>(0,false)
def iN (s:ByteArray):ByteArray×ByteArray×Bool:=(⟨(Lib.cut (bl s) [46]).1.toArray⟩,⟨(Lib.cut (bl s) [46]).2.1.toArray⟩,(Lib.cut (bl s) [46]).2.2)
def tP (s:ByteArray):Int×Int:=(cx (iN s).1,cx (iN s).2.1)
def jS (s:ByteArray):(Int×Int)×Bool:=if (iN s).2.2 then (((dR (iN s).1 9).1,(dR (iN s).2.1 9).1),(dR (iN s).1 9).2 && (dR (iN s).2.1 9).2) else ((0,0),false)
def eh (l:List Seg) (n:Nat):(Int×Int)×Bool:=match (l[n]?).bind (fun x=>x.els[2]?) with | none=>((0,0),false) | some y=>match y[0]? with | none=>((0,0),false) | some s=>jS s
theorem cut_at {s:ByteArray} {k:Nat} (hk:k < s.size) (h1:∀ j,j < k→ad s j≠46) (h2:ad s k=46):iN s=(s.extract 0 k,s.extract (k+1) s.size,true):=by
  have hi:Lib.index (bl s) [46]=(k:Nat):=by
    have e:bl s=(bl s).take k++46::(bl s).drop (k+1):=by
      rw [← h2,← io (by rw [a7]; exact hk),List.getElem_cons_drop,List.take_append_drop]
    rw [Lib.index_one,e,og _ _ _ (fun c hc=>?_),List.length_take,a7]
    · congr 1; omega
    · obtain ⟨j,hj,rfl⟩:=List.getElem_of_mem hc
      rw [List.length_take,a7] at hj
      rw [List.getElem_take,io]
      exact h1 j (by omega)
  have e1:∀ a b,bl (s.extract a b)=((bl s).drop a).take (b - a):=fun a b=>by
    show (s.extract a b).data.toList=_
    rw [ByteArray.data_extract,Array.toList_extract,List.extract_eq_take_drop]; rfl
  unfold iN Lib.cut
  rw [hi]
  simp only [show ((k:Nat):Int)≥0 from Int.natCast_nonneg k,if_true,Int.toNat_natCast]
  refine Prod.ext ?_ (Prod.ext ?_ ?_)
  · show (⟨_⟩:ByteArray)=s.extract 0 k
    rw [← ft (s.extract 0 k),e1]
    simp
  · show (⟨_⟩:ByteArray)=s.extract (k+1) s.size
    rw [← ft (s.extract (k+1) s.size),e1,List.take_of_length_le (by rw [List.length_drop,a7]; exact Nat.le_refl _)]
    simp
  · simp
theorem cut_no {s:ByteArray} (h:∀ j,j < s.size→ad s j≠46):(iN s).2.2=false:=by
  have hi:Lib.index (bl s) [46]=-1:=by
    rcases Lib.index_spec (bl s) [46] with h1 | ⟨i,h1,h2,h3⟩
    · exact h1.1
    · exfalso
      rw [Lib.index_one] at h1
      obtain ⟨h4,_⟩:=Lib.indexByte_some h1
      obtain ⟨hl,h5⟩:=List.getElem?_eq_some_iff.1 h4
      rw [io hl] at h5
      exact h i (by rw [a7] at hl; exact hl) h5
  unfold iN Lib.cut
  rw [hi]
  simp
def mkO (id fund:Int) (r:Int×Int) (copies price:Int):Ord:=⟨id,fund,r.1,r.2,copies,price,0,0,0⟩
def cj:Ord:=⟨0,0,0,0,0,0,0,0,0⟩
def dz (s n:Int):ByteArray:=(ai s++⟨#[46]⟩)++ai n
def bR (o:Ord):List Seg :=
  [⟨⟨#[85,78,72]⟩,[[⟨#[49]⟩],[⟨#[79,82,68,69,82,83]⟩,⟨#[68]⟩,⟨#[57,54,65]⟩,⟨#[85,78]⟩]]⟩,
   ⟨⟨#[66,71,77]⟩,[[⟨#[50,50,48]⟩],[ai o.id]]⟩,
   ⟨⟨#[76,73,78]⟩,[[ai 1],[⟨#[]⟩],[dz o.src o.num,⟨#[83,82,86]⟩]]⟩,
   ⟨⟨#[81,84,89]⟩,[[⟨#[50,49]⟩,ai o.copies]]⟩,
   ⟨⟨#[80,82,73]⟩,[[⟨#[65,65,65]⟩,ai o.price]]⟩,
   ⟨⟨#[82,70,70]⟩,[[⟨#[66,70,78]⟩,ai o.fund]]⟩,
   ⟨⟨#[85,78,84]⟩,[[⟨#[55]⟩],[⟨#[49]⟩]]⟩]
def nnO (o:Ord):Prop:=0≤o.id∧0≤o.fund∧0≤o.src∧0≤o.num∧0≤o.copies∧0≤o.price
def ed (o:Ord):Prop:=(1≤o.id∧o.id≤999999999)∧(1≤o.fund∧o.fund≤999999999)∧(0≤o.src∧o.src≤999999999)∧(0≤o.num∧o.num≤999999999)∧(0≤o.price∧o.price≤999999999)∧(1≤o.copies∧o.copies≤9999)
instance (o:Ord):Decidable (ed o):=by unfold ed; infer_instance
theorem bz (o:Ord):bT o=true↔ed o:=by
  unfold bT wi ed
  simp only [List.any_cons,List.any_nil,Bool.or_false,Bool.and_eq_true,Bool.not_eq_true',Bool.or_eq_false_iff,decide_eq_false_iff_not]
  omega
theorem gI {o:Ord} (h:ed o):nnO o:=by unfold ed at h; unfold nnO; omega
theorem p3 (a b c:UInt8) (s:ByteArray):(⟨#[a,b,c]⟩:ByteArray)++s=((⟨#[a,b]⟩:ByteArray)++⟨#[c]⟩)++s:=rfl
theorem p4 (a b c d:UInt8) (s:ByteArray):(⟨#[a,b,c,d]⟩:ByteArray)++s=((⟨#[a,b,c]⟩:ByteArray)++⟨#[d]⟩)++s:=rfl
theorem c58:((58:UInt8).toNat < 48∨57 < (58:UInt8).toNat):=.inr (by decide)
theorem c46:((46:UInt8).toNat < 48∨57 < (46:UInt8).toNat):=.inl (by decide)
theorem recT_ne {s n:Int} (h1:0≤s) (h2:0≤n):∀ c∈bl (dz s n),c≠58:=by
  intro c hc
  unfold dz at hc
  rw [ip,ip] at hc
  rcases List.mem_append.1 hc with hc | hc
  · rcases List.mem_append.1 hc with hc | hc
    · exact hZ h1 c58 c hc
    · have:c=46:=by simpa [bl] using hc
      rw [this]; decide
  · exact hZ h2 c58 c hc
theorem qC {s n:Int} (h1:0≤s) (h2:0≤n):aM (kw s n)=[dz s n,⟨#[83,82,86]⟩]:=by
  have e:kw s n=(dz s n++⟨#[58]⟩)++⟨#[83,82,86]⟩:=by
    rw [ByteArray.append_assoc]; rfl
  rw [e,mr (recT_ne h1 h2) (by decide)]
theorem pre3 {a b:UInt8} {n:Int} (h:0≤n) (ha:a≠58) (hb:b≠58):aM ((⟨#[a,b,58]⟩:ByteArray)++ai n)=[⟨#[a,b]⟩,ai n]:=by
  rw [p3,mr (fun c hc=>by
    have:c=a∨c=b:=by simpa [bl] using hc
    rcases this with rfl | rfl <;> assumption) (hZ h c58)]
theorem pre4 {a b d:UInt8} {n:Int} (h:0≤n) (ha:a≠58) (hb:b≠58) (hd:d≠58):aM ((⟨#[a,b,d,58]⟩:ByteArray)++ai n)=[⟨#[a,b,d]⟩,ai n]:=by
  rw [p4,mr (fun c hc=>by
    have:c=a∨c=b∨c=d:=by simpa [bl] using hc
    rcases this with rfl | rfl | rfl <;> assumption) (hZ h c58)]
theorem itoa_one:ai 1=⟨#[49]⟩:=by decide +kernel
theorem ei {o:Ord} (h:nnO o):eB o=bR o:=by
  obtain ⟨h1,h2,h3,h4,h5,h6⟩:=h
  unfold eB bR
  rw [kM (hZ h1 c58),qC h3 h4,pre3 h5 (by decide) (by decide),pre4 h6 (by decide) (by decide) (by decide),pre4 h2 (by decide) (by decide) (by decide),itoa_one]
  congr 1
theorem rQ {s n:Int} (h1:0≤s) (h2:0≤n):iN (dz s n)=(ai s,ai n,true):=by
  have hsz:(dz s n).size=(ai s).size+1+(ai n).size:=by unfold dz; rw [ByteArray.size_append,ByteArray.size_append]; rfl
  have hb:bl (dz s n)=bl (ai s)++46::bl (ai n):=by unfold dz; rw [ip,ip,List.append_assoc]; rfl
  have hat:∀ j,ad (dz s n) j=(bl (ai s)++46::bl (ai n)).getD j 0:=fun j=>by rw [← hb]; rfl
  rw [cut_at (k:=(ai s).size) (by omega) (fun j hj=>?_) (by rw [hat,← a7,List.getD_eq_getElem?_getD,List.getElem?_append_right (Nat.le_refl _),Nat.sub_self]; rfl)]
  · refine Prod.ext ?_ (Prod.ext ?_ rfl)
    · show (dz s n).extract 0 (ai s).size=_
      unfold dz; rw [ByteArray.append_assoc]; exact qA _ _
    · show (dz s n).extract ((ai s).size+1) (dz s n).size=_
      have e:(ai s).size+1=(ai s++(⟨#[46]⟩:ByteArray)).size:=by rw [ByteArray.size_append]; rfl
      rw [e]; exact qB _ _
  · rw [hat,List.getD_eq_getElem?_getD,List.getElem?_append_left (by rw [a7]; exact hj),List.getElem?_eq_getElem (by rw [a7]; exact hj)]
    exact hZ h1 c46 _ (List.getElem_mem _)
def l5 (l:List Seg):Ord:=mkO (cx (kD l 1 1 0)) (cx (kD l 5 0 1)) (tP (kD l 2 2 0)) (cx (kD l 3 0 1)) (cx (kD l 4 0 1))
def pA (l:List Seg):Ord×Int:=if ed (l5 l)∧eB (l5 l)=l then (l5 l,0) else (cj,11)
def mt (l:List Seg):Ord:=mkO (ka l 1 1 0).1 (ka l 5 0 1).1 (eh l 2).1 (ka l 3 0 1).1 (ka l 4 0 1).1
def yp (l:List Seg):Ord×Int:=if ((((eh l 2).2=true∧(ka l 1 1 0).2=true)∧(ka l 3 0 1).2=true)∧(ka l 4 0 1).2=true)∧(ka l 5 0 1).2=true∧ed (mt l)∧bR (mt l)=l then (mt l,0) else (cj,11)
theorem oh {n:Int} (h:0≤n) (h2:n≤999999999):dR (ai n) 9=(n,true):=by
  have e:(10:Int) ^ (8+1)=1000000000:=by decide
  exact qz h 8 (by omega)
theorem jT {n:Int} (h:0≤n) (h2:n≤999999999):cx (ai n)=n:=vg h (by omega)
def ol (o:Ord):Ord:={ o with prom:=0,paid:=0,st:=0 }
theorem rd_of {o:Ord} (h:ed o):l5 (bR o)=ol o∧mt (bR o)=ol o∧(eh (bR o) 2).2=true∧(ka (bR o) 1 1 0).2=true∧(ka (bR o) 3 0 1).2=true∧(ka (bR o) 4 0 1).2=true∧(ka (bR o) 5 0 1).2=true:=by
  obtain ⟨⟨a1,a2⟩,⟨b1,b2⟩,⟨c1,c2⟩,⟨d1,d2⟩,⟨e1,e2⟩,⟨f1,f2⟩⟩:=h
  have t1:tO (bR o) 1 1 0=some (ai o.id):=rfl
  have t2:tO (bR o) 2 2 0=some (dz o.src o.num):=rfl
  have t3:tO (bR o) 3 0 1=some (ai o.copies):=rfl
  have t4:tO (bR o) 4 0 1=some (ai o.price):=rfl
  have t5:tO (bR o) 5 0 1=some (ai o.fund):=rfl
  have hr:eh (bR o) 2=jS (dz o.src o.num):=rfl
  have hr2:jS (dz o.src o.num)=((o.src,o.num),true):=by
    unfold jS; rw [rQ c1 d1]; simp only [if_true,oh c1 c2,oh d1 d2]; rfl
  unfold l5 mt ka kD
  rw [hr,hr2,t1,t2,t3,t4,t5]
  simp only [Option.getD_some,oh (show 0≤o.id by omega) a2,oh (show 0≤o.fund by omega) b2,oh (show 0≤o.copies by omega) (show o.copies≤999999999 by omega),oh e1 e2,jT (show 0≤o.id by omega) a2,jT (show 0≤o.fund by omega) b2,jT (show 0≤o.copies by omega) (show o.copies≤999999999 by omega),jT e1 e2]
  refine ⟨?_,?_,trivial,trivial,trivial,trivial,trivial⟩
  · unfold tP; rw [rQ c1 d1]; simp only [jT c1 c2,jT d1 d2]; rfl
  · rfl
theorem vh {o:Ord} (h:ed o):pA (bR o)=(ol o,0)∧yp (bR o)=(ol o,0):=by
  obtain ⟨h1,h2,h3,h4,h5,h6,h7⟩:=rd_of h
  have hw:ed (ol o):=h
  unfold pA yp
  rw [h1,h2]
  rw [if_pos ⟨hw,by rw [ei (gI hw)]; rfl⟩,if_pos ⟨⟨⟨⟨h3,h4⟩,h5⟩,h6⟩,h7,hw,rfl⟩]
  exact ⟨rfl,rfl⟩
theorem lJ (l:List Seg):pA l=yp l:=by
  by_cases h1:ed (l5 l)∧eB (l5 l)=l
  · have e:l=bR (l5 l):=by rw [← ei (gI h1.1)]; exact h1.2.symm
    generalize l5 l=o at h1 e
    subst e
    rw [(vh h1.1).1,(vh h1.1).2]
  · by_cases h2:ed (mt l)∧bR (mt l)=l
    · exfalso
      have e:l=bR (mt l):=h2.2.symm
      apply h1
      generalize mt l=o at h2 e
      subst e
      rw [(rd_of h2.1).1]
      exact ⟨h2.1,by rw [ei (gI (show ed (ol o) from h2.1))]; rfl⟩
    · unfold pA yp
      rw [if_neg h1,if_neg (fun h=>h2 h.2.2)]
end Go.PK

namespace Go.PK
open Go Go.RowKit
section
variable {P:Program} {n:Nat} {l:List (Nat×Value)} {own:List (Nat×Obj)} {ro:List au} {ty t t':TypeId} {x y:Operand} {k k':IntKind} {a b:Int}
def rR (v:Value) (b:Bool):Prop:=(v=.nilIface∧b=false)∨(∃ d u,v=.iface d u)∧b=true
theorem v_ine {td:TypeDesc} {v:Value} {b:Bool} (ht:P.underlying t=some td) (hi:(match td with | .interface _=>true | _=>false)=true) (hx:ev l x=some v) (hv:rR v b):cv P n l own ro (.binOp .neq t x (.const .nilIface) t') ty (.bool b):=by
  intro A w o ha _ ho _
  have e:A.eval (.const .nilIface)=.nilIface:=rfl
  cases td <;> simp at hi
  rcases hv with ⟨rfl,rfl⟩ | ⟨⟨d,u,rfl⟩,rfl⟩
  · have h:∀ d:Nat,(Op.equalIn (d+1) t .nilIface .nilIface).run P w=.ok true w:=fun d=>by simp [Op.equalIn,run_underlying ht]
    have h2:(Op.equal t .nilIface .nilIface).run P w=.ok true w:=h 9999
    simp [execOp,ho,ha.eval hx,e,eqGuard,binOp,h2]
  · have h:∀ q:Nat,(Op.equalIn (q+1) t (.iface d u) .nilIface).run P w=.ok false w:=fun q=>by simp [Op.equalIn,run_underlying ht]
    have h2:(Op.equal t (.iface d u) .nilIface).run P w=.ok false w:=h 9999
    simp [execOp,ho,ha.eval hx,e,eqGuard,binOp,h2]
theorem kN {e:TypeId} {A:Option Addr} {m c:Nat} (ht:P.underlying t=some (.slice e)) (hx:ev l x=some (.slice A m c)):cv P n l own ro (.binOp .eql t x (.const (.slice none 0 0)) t') ty (.bool A.isNone):=by
  intro a w o ha _ ho _
  have e0:a.eval (.const (.slice none 0 0))=.slice none 0 0:=rfl
  have h:∀ d:Nat,(Op.equalIn (d+1) t (.slice A m c) (.slice none 0 0)).run P w=.ok A.isNone w:=fun d=>by
    cases A <;> simp [Op.equalIn,run_underlying ht]
  have h2:(Op.equal t (.slice A m c) (.slice none 0 0)).run P w=.ok A.isNone w:=h 9999
  simp [execOp,ho,ha.eval hx,e0,eqGuard,binOp,h2]
theorem v_subU8 {a b:Nat} (hx:ev l x=some (.int .u8 (a:Nat))) (hy:ev l y=some (.int .u8 (b:Nat))) (h:b≤a) (h2:a < 256):cv P n l own ro (.binOp .sub t x y t') ty (.int .u8 ((a - b:Nat):Int)):=by
  have h3:=v_sub (P:=P) (n:=n) (own:=own) (ro:=ro) (ty:=ty) (t:=t) (t':=t') hx hy
  rw [IntKind.wrap_u8,show ((a:Int) - (b:Int))%256=((a - b:Nat):Int) by omega] at h3
  exact h3
theorem jU {td:TypeDesc} {c:Nat} (hs:P.underlying t=some td) (hd:P.underlying t'=some (.int .u8)) (hx:ev l x=some (.int k (c:Nat))) (h:c < 256):cv P n l own ro (.convert t t' x) ty (.int .u8 (((UInt8.ofNat c).toNat:Nat):Int)):=by
  have h3:=l7 (n:=n) (own:=own) (ro:=ro) (ty:=ty) hs hd hx
  rw [IntKind.wrap_u8,show ((c:Nat):Int)%256=((c:Nat):Int) by omega] at h3
  rw [UInt8.toNat_ofNat_of_lt' (by show _ < 256; omega)]
  exact h3
end
end Go.PK

namespace Go.PK
open Go Go.RowKit
section
variable {P:Program} {n:Nat} {l:List (Nat×Value)} {own:List (Nat×Obj)} {ro:List au} {Q:Exit→Act→World→Prop} {K:Act→World→Prop} {R:Ending→World→Prop} {fn:Func}
theorem fX {t u:Tmp} {ty:TypeId} {td:TypeDesc} {b:Nat} {cs:Array Value} {e:TypeId} {fz:Nat×Nat} {v:Value} (hr:fn.results=#[.cell t ty,.tmp u]) (hv:l.lookup t=some (.pointer (some ⟨b,0,none⟩))) (hu:l.lookup u=some v) (hb:(b,Obj.cells cs e fz)∈own)
    (ht:P.underlying ty=some td) (hd:jy td=true) (hs:(P.info? ty).map (·.size)=some cs.size) (h:∀ w',Mem w' own ro→R (.returned (.tuple #[.agg cs,v])) w'):S (bodyPost P fn R .ret) n l own ro:=by
  intro a w ha hw
  refine ⟨ha.df,_,?_,h w hw⟩
  have h1:=ha.at_ t _ hv
  have h2:=ha.at_ u _ hu
  rw [results_cell_tmp hr,show a.tmps.getD t undef=.pointer (some ⟨b,0,none⟩) by simp [Array.getD_eq_getD_getElem?,h1],show a.tmps.getD u undef=v by simp [Array.getD_eq_getD_getElem?,h2]]
  simp [asAddr,run_loadVar_row w b e ty cs fz td (hw.own_at _ hb) ht (by cases td <;> simp_all [jy]) hs]
end
theorem qE {P:Program} {f:FuncId} {u v:Value} {w:World} {Q:Ending→World→Prop} (h:Calls P f #[u,v] w Q):Calls P f (#[u,v]++#[]) w Q:=by simpa using h
def bu (l:List Seg) (n:Nat):Seg:=l.getD n ⟨⟨#[]⟩,[]⟩
def dE (x:List (List ByteArray)) (e:Nat):List ByteArray:=x.getD e []
theorem kb {D:Nat→Prop} {w:World} {A:Option Addr} {m c:Nat} {l:List Seg} (h:aa aX D w (.slice A m c) l) (n:Nat) :
    ∃ b off EA ec,n < l.length→A=some ⟨b,off,none⟩∧D b∧w.cell? ⟨b,off+n*2,none⟩=some (.string (bu l n).tag)∧w.cell? ⟨b,off+n*2+1,none⟩=some (.slice EA (bu l n).els.length ec)∧iw (bu l n).tag∧aa (aO aV) D w (.slice EA (bu l n).els.length ec) (bu l n).els:=by
  by_cases hn:n < l.length
  · obtain ⟨b,o,v,h1,h2,h3,h4,h5,h6⟩:=ml h hn
    obtain ⟨EA,ec,rfl,_⟩:=id h6
    exact ⟨b,o,EA,ec,fun _=>by unfold bu; rw [dP hn]; exact ⟨h1,h2,h3,h4,h5,h6⟩⟩
  · exact ⟨0,0,none,0,fun h=>absurd h hn⟩
theorem kc {D:Nat→Prop} {w:World} {A:Option Addr} {m c:Nat} {x:List (List ByteArray)} {K:Prop} (h:K→aa (aO aV) D w (.slice A m c) x) (e:Nat) :
    ∃ b off FA fc,K→e < x.length→A=some ⟨b,off,none⟩∧D b∧w.cell? ⟨b,off+e,none⟩=some (.slice FA (dE x e).length fc)∧aa aV D w (.slice FA (dE x e).length fc) (dE x e):=by
  by_cases hk:K
  · by_cases he:e < x.length
    · obtain ⟨b,o,v,h1,h2,h3,h4⟩:=qo (h hk) he
      obtain ⟨FA,fc,rfl,_⟩:=id h4
      exact ⟨b,o,FA,fc,fun _ _=>by unfold dE; rw [dP he]; exact ⟨h1,h2,h3,h4⟩⟩
    · exact ⟨0,0,none,0,fun _ h=>absurd h he⟩
  · exact ⟨0,0,none,0,fun h=>absurd h hk⟩
theorem rT {l:List Seg} {n e c:Nat} (h1:n < l.length) (h2:e < (bu l n).els.length) (h3:c < (dE (bu l n).els e).length):tO l n e c=some ((dE (bu l n).els e)[c]):=by
  have k1:l[n]?=some (bu l n):=by unfold bu; rw [dP h1,List.getElem?_eq_getElem h1]
  have k2:(bu l n).els[e]?=some (dE (bu l n).els e):=by unfold dE; rw [dP h2,List.getElem?_eq_getElem h2]
  unfold tO
  rw [k1]
  simp only [Option.bind_some,k2]
  rw [List.getElem?_eq_getElem h3]
theorem rU {l:List Seg} {n e c:Nat} (h:¬(n < l.length∧e < (bu l n).els.length∧c < (dE (bu l n).els e).length)):tO l n e c=none:=by
  unfold tO
  by_cases h1:n < l.length
  · have k1:l[n]?=some (bu l n):=by unfold bu; rw [dP h1,List.getElem?_eq_getElem h1]
    rw [k1]
    simp only [Option.bind_some]
    by_cases h2:e < (bu l n).els.length
    · have k2:(bu l n).els[e]?=some (dE (bu l n).els e):=by unfold dE; rw [dP h2,List.getElem?_eq_getElem h2]
      rw [k2]
      simp only [Option.bind_some]
      exact List.getElem?_eq_none (by have:=fun h3=>h ⟨h1,h2,h3⟩; omega)
    · rw [List.getElem?_eq_none (by omega)]; rfl
  · rw [List.getElem?_eq_none (by omega)]; rfl
theorem rrec_in {l:List Seg} {n:Nat} (h1:n < l.length) (h2:2 < (bu l n).els.length) (h3:0 < (dE (bu l n).els 2).length):eh l n=jS ((dE (bu l n).els 2)[0]):=by
  have k1:l[n]?=some (bu l n):=by unfold bu; rw [dP h1,List.getElem?_eq_getElem h1]
  have k2:(bu l n).els[2]?=some (dE (bu l n).els 2):=by unfold dE; rw [dP h2,List.getElem?_eq_getElem h2]
  unfold eh
  rw [k1]
  simp only [Option.bind_some,k2]
  rw [List.getElem?_eq_getElem h3]
theorem rrec_out {l:List Seg} {n:Nat} (h:¬(n < l.length∧2 < (bu l n).els.length∧0 < (dE (bu l n).els 2).length)):eh l n=((0,0),false):=by
  unfold eh
  by_cases h1:n < l.length
  · have k1:l[n]?=some (bu l n):=by unfold bu; rw [dP h1,List.getElem?_eq_getElem h1]
    rw [k1]
    simp only [Option.bind_some]
    by_cases h2:2 < (bu l n).els.length
    · have k2:(bu l n).els[2]?=some (dE (bu l n).els 2):=by unfold dE; rw [dP h2,List.getElem?_eq_getElem h2]
      rw [k2]
      dsimp only
      rw [List.getElem?_eq_none (by have:=fun h3=>h ⟨h1,h2,h3⟩; omega)]
    · rw [List.getElem?_eq_none (by omega)]
  · rw [List.getElem?_eq_none (by omega)]; rfl
end Go.PK

namespace Go.PK
open Go Go.RowKit
theorem rdO_nil:pA []=(cj,11):=by decide +kernel
theorem yq (o:Ord):pA (aT o)=if bT o then (ol o,0) else (cj,11):=by
  unfold aT
  by_cases h:bT o=true
  · rw [if_pos h,if_pos h,ei (gI ((bz o).1 h))]
    exact (vh ((bz o).1 h)).1
  · rw [if_neg h,if_neg h,rdO_nil]
theorem dw {n:Int} (h:0≤n) (h2:n≤999999999):(ai n).size≤9:=by
  refine (lI h 8).2 ?_
  have e:(10:Int) ^ (8+1)=1000000000:=by decide
  rw [e]; omega
theorem qF {s n:Int} (h1:0≤s) (h2:s≤999999999) (h3:0≤n) (h4:n≤999999999):(dz s n).size≤19:=by
  have e:(dz s n).size=(ai s).size+1+(ai n).size:=by unfold dz; rw [ByteArray.size_append,ByteArray.size_append]; rfl
  have:=dw h1 h2; have:=dw h3 h4; omega
theorem yr (o:Ord):∀ x∈aT o,∀ y∈x.els,∀ s∈y,s.size≤2000000000:=by
  unfold aT
  by_cases h:bT o=true
  · rw [if_pos h]
    have hw:=(bz o).1 h
    rw [ei (gI hw)]
    obtain ⟨⟨a1,a2⟩,⟨b1,b2⟩,⟨c1,c2⟩,⟨d1,d2⟩,⟨e1,e2⟩,⟨f1,f2⟩⟩:=hw
    have k1:=dw (show 0≤o.id by omega) a2
    have k2:=dw (show 0≤o.fund by omega) b2
    have k3:=dw (show 0≤o.copies by omega) (show o.copies≤999999999 by omega)
    have k4:=dw e1 e2
    have k5:=qF c1 c2 d1 d2
    have k6:=dw (show (0:Int)≤1 by omega) (by omega)
    unfold bR
    simp only [List.forall_mem_cons,List.not_mem_nil,false_imp_iff,implies_true,and_true]
    repeat' apply And.intro
    all_goals first | decide | omega
  · rw [if_neg h]; intro x hx; cases hx
end Go.PK

namespace Go.PK
open Go Go.RowKit
section
variable {P:Program} {n:Nat} {l:List (Nat×Value)} {own:List (Nat×Obj)} {ro:List au} {ty t t':TypeId} {x y:Operand} {xs ys:Array Value} {b:Bool}
theorem tV (hm:P.eqGuardType P.depth t=false) (hx:ev l x=some (.agg xs)) (hy:ev l y=some (.agg ys)) (he:∀ w,(Op.equalIn 10000 t (.agg xs) (.agg ys)).run P w=.ok b w):cv P n l own ro (.binOp .neq t x y t') ty (.bool (!b)):=by
  intro A w o ha _ ho _
  simp [execOp,ho,ha.eval hx,ha.eval hy,run_eqGuard_agg w .neq t x y xs ys hm,run_neq_struct,he]
end
end Go.PK

namespace Go.PK
open Go Go.RowKit
def ea (k:Nat) (o:Ord):List Seg :=
  [⟨⟨#[76,73,78]⟩,[[ai ((k+1:Nat):Int)],[⟨#[]⟩],[dz o.src o.num,⟨#[83,82,86]⟩]]⟩,
   ⟨⟨#[82,70,70]⟩,[[⟨#[79,78]⟩,ai o.id]]⟩,
   ⟨⟨#[81,84,89]⟩,[[⟨#[52,55]⟩,ai o.copies]]⟩,
   ⟨⟨#[80,82,73]⟩,[[⟨#[65,65,65]⟩,ai o.price]]⟩]
def bY:Nat→List Ord→List Seg
  | _,[]=>[]
  | k,o::t=>ea k o++bY (k+1) t
def dB:List Seg :=
  [⟨⟨#[85,78,72]⟩,[[⟨#[49]⟩],[⟨#[73,78,86,79,73,67]⟩,⟨#[68]⟩,⟨#[57,54,65]⟩,⟨#[85,78]⟩]]⟩,⟨⟨#[66,71,77]⟩,[[⟨#[51,56,48]⟩]]⟩]
def eW (n:Nat) (t:ByteArray):List Seg :=
  [⟨⟨#[85,78,83]⟩,[[⟨#[83]⟩]]⟩,⟨⟨#[77,79,65]⟩,[[⟨#[56,54]⟩,t]]⟩,⟨⟨#[85,78,84]⟩,[[ai ((4*n+5:Nat):Int)],[⟨#[49]⟩]]⟩]
def bm (ls:List Ord) (t:ByteArray):List Seg:=(dB++bY 0 ls)++eW ls.length t
def pf (o:Ord):Ord:={ o with fund:=1 }
def dx (ls:List Ord):Prop:=1≤ls.length∧ls.length≤999∧∀ o∈ls,ed (pf o)
instance (ls:List Ord):Decidable (dx ls):=by unfold dx; infer_instance
def a8 (ls:List Ord):Int:=(ls.map fun o=>o.copies*o.price).sum
def bF (ls:List Ord):List Seg:=if dx ls then bm ls (ai (a8 ls)) else []
def gJ (o:Ord):Ord:=mkO o.id 0 (o.src,o.num) o.copies o.price
theorem fx:∀ (ls:List Ord) (j:Nat),(bY j ls).length=4*ls.length
  | [],_=>rfl
  | o::t,j=>by
    show (ea j o++bY (j+1) t).length=_
    rw [List.length_append,fx t (j+1),List.length_cons]
    show 4+4*t.length=_
    omega
theorem mW:∀ (ls:List Ord) (o:Ord) (j:Nat),bY j (ls++[o])=bY j ls++ea (j+ls.length) o
  | [],o,j=>by show ea j o++[]=[]++ea (j+0) o; rw [List.append_nil]; rfl
  | p::t,o,j=>by
    show ea j p++bY (j+1) (t++[o])=(ea j p++bY (j+1) t)++_
    rw [mW t o (j+1),List.append_assoc,List.length_cons,show j+1+t.length=j+(t.length+1) by omega]
theorem oq:∀ (ls:List Ord) (j k i:Nat) (hk:k < ls.length),i < 4→(bY j ls)[4*k+i]?=(ea (j+k) ls[k])[i]?
  | [],_,_,_,hk,_=>absurd hk (Nat.not_lt_zero _)
  | o::t,j,0,i,_,hi=>by
    show (ea j o++bY (j+1) t)[4*0+i]?=_
    rw [List.getElem?_append_left (by show _ < 4; omega),show 4*0+i=i by omega]; rfl
  | o::t,j,k+1,i,hk,hi=>by
    show (ea j o++bY (j+1) t)[4*(k+1)+i]?=_
    rw [List.getElem?_append_right (by show 4≤_; omega),show 4*(k+1)+i - (ea j o).length=4*k+i by show _ - 4=_; omega,oq t (j+1) k i (by simpa using hk) hi,show j+1+k=j+(k+1) by omega]; rfl
theorem mX:∀ (ls:List Ord) (j:Nat),bY j (ls.map gJ)=bY j ls
  | [],_=>rfl
  | o::t,j=>by
    show ea j (gJ o)++bY (j+1) (t.map gJ)=ea j o++bY (j+1) t
    rw [mX t (j+1)]; rfl
theorem kQ (ls:List Ord) (t:ByteArray):bm (ls.map gJ) t=bm ls t:=by
  unfold bm; rw [mX,List.length_map]
theorem cL (ls:List Ord) (t:ByteArray):(bm ls t).length=4*ls.length+5:=by
  unfold bm; rw [List.length_append,List.length_append,fx]; show 2+_+3=_; omega
theorem ke (ls:List Ord) (t:ByteArray) {k i:Nat} (hk:k < ls.length) (hi:i < 4):(bm ls t)[4*k+(i+2)]?=(ea k ls[k])[i]?:=by
  unfold bm
  rw [List.getElem?_append_left (by rw [List.length_append,fx]; show _ < 2+_; omega),List.getElem?_append_right (by show 2≤_; omega),show 4*k+(i+2) - dB.length=4*k+i by show _ - 2=_; omega,oq ls 0 k i hk hi,Nat.zero_add]
theorem kf (ls:List Ord) (t:ByteArray):(bm ls t)[(bm ls t).length - 2]?=some ⟨⟨#[77,79,65]⟩,[[⟨#[56,54]⟩,t]]⟩:=by
  rw [cL]
  unfold bm
  rw [List.getElem?_append_right (by rw [List.length_append,fx]; show 2+_≤_; omega),show 4*ls.length+5 - 2 - (dB++bY 0 ls).length=1 by rw [List.length_append,fx]; show _ - (2+_)=_; omega]
  rfl
theorem yt {ls:List Ord} {t u:ByteArray} (h:bm ls t=bm ls u):t=u:=by
  have h1:=kf ls t
  rw [h,kf] at h1
  simpa using h1.symm
theorem ot {l:List Seg} {n:Nat} {x:Seg} (h:l[n]?=some x) (e c:Nat):tO l n e c=(x.els[e]?).bind fun y=>y[c]?:=by unfold tO; rw [h]; rfl
def fY (l:List Seg) (k:Nat):Ord:=mkO (cx (kD l (4*k+3) 0 1)) 0 (tP (kD l (4*k+2) 2 0)) (cx (kD l (4*k+4) 0 1)) (cx (kD l (4*k+5) 0 1))
def bg (l:List Seg):List Ord:=(List.range (min 1000 ((l.length - 3) / 4))).map (fY l)
def dM (l:List Seg):ByteArray:=kD l (l.length - 2) 0 1
def iO (l:List Seg):List Ord×Int :=
  if dx (bg l)∧(bF (bg l)).length=l.length then
    if bF (bg l)=l then (bg l,0)
    else if 0≤cx (dM l)∧ai (cx (dM l))=dM l∧bm (bg l) (dM l)=l then ([],60) else ([],11)
  else ([],11)
def kE (l:List Seg) (k:Nat):Ord:=mkO (ka l (4*k+3) 0 1).1 0 (eh l (4*k+2)).1 (ka l (4*k+4) 0 1).1 (ka l (4*k+5) 0 1).1
def ou (l:List Seg) (k:Nat):Prop:=(eh l (4*k+2)).2=true∧(ka l (4*k+3) 0 1).2=true∧(ka l (4*k+4) 0 1).2=true∧(ka l (4*k+5) 0 1).2=true
def nc (l:List Seg):Nat:=(l.length - 5) / 4
def fy (l:List Seg):List Ord:=(List.range (nc l)).map (kE l)
def vl (l:List Seg):Prop:=9≤l.length∧l.length%4=1∧l.length≤4001
def moaR (l:List Seg):Prop:=∃ x,l[l.length - 2]?=some x∧x.els.length=1∧∃ y,x.els[0]?=some y∧y.length=2
def okR (l:List Seg):Prop:=vl l∧(∀ k,k < nc l→ou l k)∧dx (fy l)∧moaR l∧(dR (dM l) 18).2=true∧bm (fy l) (dM l)=l
open Classical in
noncomputable def uM (l:List Seg):List Ord×Int:=if okR l then (if (dR (dM l) 18).1=a8 (fy l) then (fy l,0) else ([],60)) else ([],11)
theorem ov {ls:List Ord} (h:dx ls):dx (ls.map gJ):=by
  obtain ⟨h1,h2,h3⟩:=h
  refine ⟨by rw [List.length_map]; exact h1,by rw [List.length_map]; exact h2,fun o ho=>?_⟩
  obtain ⟨p,hp,rfl⟩:=List.mem_map.1 ho
  exact h3 p hp
theorem ow (ls:List Ord):a8 (ls.map gJ)=a8 ls:=by
  unfold a8; rw [List.map_map]; rfl
theorem rX {ls:List Ord} {t:ByteArray} (h:∀ o∈ls,ed (pf o)) {k:Nat} (hk:k < ls.length):fY (bm ls t) k=gJ ls[k]∧kE (bm ls t) k=gJ ls[k]∧ou (bm ls t) k:=by
  obtain ⟨⟨a1,a2⟩,_,⟨c1,c2⟩,⟨d1,d2⟩,⟨e1,e2⟩,⟨f1,f2⟩⟩:=h ls[k] (List.getElem_mem hk)
  have g0:=ke ls t hk (i:=0) (by omega)
  have g1:=ke ls t hk (i:=1) (by omega)
  have g2:=ke ls t hk (i:=2) (by omega)
  have g3:=ke ls t hk (i:=3) (by omega)
  generalize ls[k]=o at a1 a2 c1 c2 d1 d2 e1 e2 f1 f2 g0 g1 g2 g3 ⊢
  have a1:1≤o.id:=a1
  have a2:o.id≤999999999:=a2
  have c1:0≤o.src:=c1
  have c2:o.src≤999999999:=c2
  have d1:0≤o.num:=d1
  have d2:o.num≤999999999:=d2
  have e1:0≤o.price:=e1
  have e2:o.price≤999999999:=e2
  have f1:1≤o.copies:=f1
  have f2:o.copies≤9999:=f2
  generalize bm ls t=l at g0 g1 g2 g3 ⊢
  have t0:tO l (4*k+2) 2 0=some (dz o.src o.num):=(ot g0 2 0).trans rfl
  have t1:tO l (4*k+3) 0 1=some (ai o.id):=(ot g1 0 1).trans rfl
  have t2:tO l (4*k+4) 0 1=some (ai o.copies):=(ot g2 0 1).trans rfl
  have t3:tO l (4*k+5) 0 1=some (ai o.price):=(ot g3 0 1).trans rfl
  have hr:eh l (4*k+2)=jS (dz o.src o.num):=by unfold eh; rw [g0]; rfl
  have hr2:jS (dz o.src o.num)=((o.src,o.num),true):=by
    unfold jS; rw [rQ c1 d1]; simp only [if_true,oh c1 c2,oh d1 d2]; rfl
  unfold fY kE ou ka kD
  rw [hr,hr2,t0,t1,t2,t3]
  simp only [Option.getD_some,oh (show 0≤o.id by omega) a2,oh (show 0≤o.copies by omega) (show o.copies≤999999999 by omega),oh e1 e2,jT (show 0≤o.id by omega) a2,jT (show 0≤o.copies by omega) (show o.copies≤999999999 by omega),jT e1 e2]
  refine ⟨?_,rfl,trivial,trivial,trivial,trivial⟩
  unfold tP; rw [rQ c1 d1]; simp only [jT c1 c2,jT d1 d2]; rfl
theorem qG {α:Type} {ls:List Ord} {n:Nat} {f:Nat→α} {g:Ord→α} (hn:n=ls.length) (h:∀ k (hk:k < ls.length),f k=g ls[k]):(List.range n).map f=ls.map g:=by
  subst hn
  refine List.ext_getElem (by simp) fun i h1 h2=>?_
  simp only [List.getElem_map,List.getElem_range]
  exact h i (by simpa using h1)
theorem tW {ls:List Ord} {t:ByteArray} (h:dx ls):bg (bm ls t)=ls.map gJ∧fy (bm ls t)=ls.map gJ∧nc (bm ls t)=ls.length:=by
  obtain ⟨h1,h2,h3⟩:=h
  have e:nc (bm ls t)=ls.length:=by unfold nc; rw [cL]; omega
  refine ⟨qG (by rw [cL]; omega) fun k hk=>(rX h3 hk).1,qG e fun k hk=>(rX h3 hk).2.1,e⟩
theorem oy (ls:List Ord) (t:ByteArray):dM (bm ls t)=t:=by
  unfold dM kD
  rw [ot (kf ls t)]; rfl
theorem eX:∀ {ls:List Ord},(∀ o∈ls,ed (pf o))→0≤a8 ls∧a8 ls≤10000000000000*(ls.length:Int)
  | [],_=>⟨Int.le_refl _,by show (0:Int)≤_; simp⟩
  | o::t,h=>by
    obtain ⟨h1,h2⟩:=eX (ls:=t) fun p hp=>h p (List.mem_cons_of_mem _ hp)
    obtain ⟨_,_,_,_,⟨e1,e2⟩,⟨f1,f2⟩⟩:=h o (List.mem_cons_self ..)
    have e1:0≤o.price:=e1
    have e2:o.price≤999999999:=e2
    have f1:1≤o.copies:=f1
    have f2:o.copies≤9999:=f2
    have e:a8 (o::t)=o.copies*o.price+a8 t:=by unfold a8; rw [List.map_cons,List.sum_cons]
    have g1:0≤o.copies*o.price:=Int.mul_nonneg (by omega) e1
    have g2:o.copies*o.price≤9999*999999999:=Int.mul_le_mul f2 e2 e1 (by decide)
    rw [e,List.length_cons]
    constructor <;> omega
theorem mw (t:ByteArray):(dR t 18).2=true↔0≤cx t∧ai (cx t)=t:=by
  constructor
  · intro h
    obtain ⟨_,_,h3,h4⟩:=wP h
    rw [mV h4 h3]
    exact ⟨by omega,oe h4⟩
  · intro ⟨h1,h2⟩
    have h3:=vf h1
    have h4:=jl h1
    rw [h2] at h4
    unfold dR
    rw [if_pos ⟨h4,h3⟩]
theorem rY {ls:List Ord} {t:ByteArray} (h:dx ls):ai (a8 ls)=t↔(dR t 18).2=true∧(dR t 18).1=a8 ls:=by
  obtain ⟨h1,h2,h3⟩:=h
  obtain ⟨h4,h5⟩:=eX h3
  have hb:a8 ls < 1000000000000000000:=by omega
  constructor
  · rintro rfl
    have:=qz h4 17 (by have e:(10:Int) ^ (17+1)=1000000000000000000:=(by decide); rw [e]; exact hb)
    rw [this]; exact ⟨rfl,rfl⟩
  · intro ⟨h6,h7⟩
    rw [← h7]; exact (wP h6).1
theorem tX {ls:List Ord} (h:dx ls) (t:ByteArray):iO (bm ls t)=if (dR t 18).2=true then (if (dR t 18).1=a8 ls then (ls.map gJ,0) else ([],60)) else ([],11):=by
  unfold iO
  obtain ⟨h1,h2,h3⟩:=tW (t:=t) h
  rw [h1,oy]
  have hx:bF (ls.map gJ)=bm ls (ai (a8 ls)):=by unfold bF; rw [if_pos (ov h),kQ,ow]
  rw [hx,cL,cL,kQ,if_pos ⟨ov h,rfl⟩]
  have e1:(bm ls (ai (a8 ls))=bm ls t)↔ai (a8 ls)=t:=⟨fun q=>yt q,fun q=>by rw [q]⟩
  by_cases hc:(dR t 18).2=true
  · rw [if_pos hc]
    by_cases hv:(dR t 18).1=a8 ls
    · rw [if_pos hv,if_pos (e1.2 ((rY h).2 ⟨hc,hv⟩))]
    · rw [if_neg hv,if_neg (fun q=>hv ((rY h).1 (e1.1 q)).2),if_pos ⟨((mw t).1 hc).1,((mw t).1 hc).2,rfl⟩]
  · rw [if_neg hc,if_neg (fun q=>hc ((rY h).1 (e1.1 q)).1),if_neg (fun q=>hc ((mw t).2 ⟨q.1,q.2.1⟩))]
theorem rrI_with {ls:List Ord} (h:dx ls) (t:ByteArray):uM (bm ls t)=if (dR t 18).2=true then (if (dR t 18).1=a8 ls then (ls.map gJ,0) else ([],60)) else ([],11):=by
  unfold uM
  obtain ⟨h1,h2,h3⟩:=tW (t:=t) h
  obtain ⟨p1,p2,p3⟩:=id h
  rw [h2,oy,ow]
  by_cases hc:(dR t 18).2=true
  · rw [if_pos hc,if_pos]
    refine ⟨⟨by rw [cL]; omega,by rw [cL]; omega,by rw [cL]; omega⟩,fun k hk=>(rX p3 (by rwa [h3] at hk)).2.2,by rw [h2]; exact ov h,⟨_,kf ls t,rfl,_,rfl,rfl⟩,by rw [oy]; exact hc,by rw [h2,oy,kQ]⟩
  · rw [if_neg hc,if_neg]
    intro ⟨_,_,_,_,q,_⟩
    rw [oy] at q; exact hc q
theorem oz (l:List Seg):iO l=uM l:=by
  by_cases hl:∃ ls t,dx ls∧bm ls t=l
  · obtain ⟨ls,t,h,rfl⟩:=hl
    rw [tX h,rrI_with h]
  · have e1:uM l=([],11):=by
      unfold uM; rw [if_neg]
      intro ⟨_,_,q,_,_,r⟩
      exact hl ⟨_,_,q,r⟩
    have e2:iO l=([],11):=by
      unfold iO
      by_cases h1:dx (bg l)∧(bF (bg l)).length=l.length
      · rw [if_pos h1,if_neg,if_neg]
        · intro q; exact hl ⟨_,_,h1.1,q.2.2⟩
        · intro q
          have:bF (bg l)=bm (bg l) (ai (a8 (bg l))):=by unfold bF; rw [if_pos h1.1]
          exact hl ⟨_,_,h1.1,this.symm.trans q⟩
      · rw [if_neg h1]
    rw [e1,e2]
theorem mY:¬dx []:=fun h=>absurd h.1 (by decide)
theorem rdI_nil:iO []=([],11):=by
  unfold iO
  rw [if_neg]
  intro h
  exact mY h.1
theorem wS (ls:List Ord):iO (bF ls)=if dx ls then (ls.map gJ,0) else ([],11):=by
  unfold bF
  by_cases h:dx ls
  · rw [if_pos h,if_pos h,tX h]
    obtain ⟨h1,h2⟩:=(rY h).1 rfl
    rw [if_pos h1,if_pos h2]
  · rw [if_neg h,if_neg h,rdI_nil]
theorem fK (ls:List Ord):(bF ls).length=if dx ls then 4*ls.length+5 else 0:=by
  unfold bF
  by_cases h:dx ls
  · rw [if_pos h,if_pos h,cL]
  · rw [if_neg h,if_neg h]; rfl
end Go.PK

namespace Go.PK
open Go Go.RowKit
theorem qH {α:Type} {T:Ty α} {D:Nat→Prop} {ws:World} {r':ak} {xs ys:List α} {css css':List (List Value)} {n m:Nat} (hn:xs.length=n) (h1:css.length=n) (h3:∀ j (h1:j < css.length) (h2:j < xs.length),T.rd D ws css[j] xs[j])
    (hr:ag T.size r' (n+m) (css.flatten++css'.flatten)) (hm:m=ys.length) (hx:RdAll T D ws css' ys):cU T D ws r' (xs++ys):=by
  subst hn hm
  refine ⟨css++css',by simp [h1,hx.len.1],by rw [List.length_append,List.flatten_append]; exact hr,fun j a b=>?_⟩
  by_cases hj:j < css.length
  · rw [List.getElem_append_left hj,List.getElem_append_left (by omega)]; exact h3 j hj (by omega)
  · have:=hx.at (j - css.length) (by simp at a; omega) (by simp at b; omega)
    rw [List.getElem_append_right (by omega),List.getElem_append_right (by omega)]
    simpa [h1] using this
theorem jV:∀ (l:List Ord) (o:Ord),a8 (l++[o])=a8 l+o.copies*o.price
  | [],o=>by unfold a8; simp
  | p::t,o=>by
    have ih:=jV t o
    unfold a8 at ih ⊢
    rw [List.cons_append,List.map_cons,List.sum_cons,ih,List.map_cons,List.sum_cons,Int.add_assoc]
theorem vm {ls:List Ord} (h:∀ o∈ls,ed (pf o)) (k:Nat):0≤a8 (ls.take k)∧a8 (ls.take k)≤10000000000000*((min k ls.length:Nat):Int):=by
  have:=eX (ls:=ls.take k) fun o ho=>h o (List.mem_of_mem_take ho)
  rwa [List.length_take] at this
theorem jW {o:Ord} (h:ed (pf o)):0≤o.copies*o.price∧o.copies*o.price≤9998999990001∧(0≤o.id∧o.id≤999999999)∧(0≤o.src∧o.src≤999999999)∧(0≤o.num∧o.num≤999999999)∧(0≤o.copies∧o.copies≤9999)∧0≤o.price∧o.price≤999999999:=by
  obtain ⟨⟨a1,a2⟩,_,⟨c1,c2⟩,⟨d1,d2⟩,⟨e1,e2⟩,⟨f1,f2⟩⟩:=h
  have a1:1≤o.id:=a1
  have a2:o.id≤999999999:=a2
  have c1:0≤o.src:=c1
  have c2:o.src≤999999999:=c2
  have d1:0≤o.num:=d1
  have d2:o.num≤999999999:=d2
  have e1:0≤o.price:=e1
  have e2:o.price≤999999999:=e2
  have f1:1≤o.copies:=f1
  have f2:o.copies≤9999:=f2
  have g1:0≤o.copies*o.price:=Int.mul_nonneg (by omega) e1
  have g2:o.copies*o.price≤9999*999999999:=Int.mul_le_mul f2 e2 e1 (by decide)
  omega
theorem pf_ok {o:Ord} (h:o.okA):(pf o).ok:=by
  obtain ⟨⟨h1,_,h3,h4,h5,h6⟩,_⟩:=h
  exact ⟨h1,by show aj 1; unfold aj; decide,h3,h4,h5,h6⟩
theorem gm {α:Type} {ls:List α} {k:Nat} (hk:k < ls.length):ls.take (k+1)=ls.take k++[ls[k]]:=List.take_succ_eq_append_getElem hk
theorem mZ {ls:List Ord} {k:Nat} (hk:k < ls.length) (h:∀ o∈ls.take k,ed (pf o)) (h2:ed (pf ls[k])):∀ o∈ls.take (k+1),ed (pf o):=fun o ho=>by
  rw [gm hk] at ho
  rcases List.mem_append.1 ho with h3 | h3
  · exact h o h3
  · rw [List.mem_singleton.1 h3]; exact h2
theorem m5 {ls:List Ord} {k:Nat} (hk:k < ls.length):dB++bY 0 (ls.take (k+1))=(dB++bY 0 (ls.take k))++ea k ls[k]:=by
  rw [gm hk,mW,List.length_take,List.append_assoc,show 0+min k ls.length=k by omega]
theorem hl_len {ls:List Ord} {k:Nat} (hk:k≤ls.length):(dB++bY 0 (ls.take k)).length=2+4*k:=by
  rw [List.length_append,fx,List.length_take,Nat.min_eq_left hk]; rfl
end Go.PK

namespace Go.PK
open Go Go.RowKit
theorem cU.any {α:Type} {T:Ty α} {D':Nat→Prop} {w wx:World} {own:List (Nat×Obj)} {ro:List au} {e:TypeId} {r:ak} {xs:List α} {v:Nat} (h:cU T (fun _=>False) wx r xs) (hm:Mem w own ro) (hin:∀ p∈aA e r,p∈own) (hD:∀ p∈aA e r,D' p.1) (hv:v=xs.length):aa T D' w (av r v) xs :=
  cU.rd (D:=fun _=>False) (w:=w) (h.keep (fun k hk _=>hk.elim)) hm hin (fun _ hx=>hx.elim) hD hv
theorem aU.made0 {w wa wb w0:World} {own own1:List (Nat×Obj)} {ro ro1:List au} (h:Mem w0 own ro) (hm:Mem wa own1 ro1) (hs:(wb,aZ own1)∈ro) (hw:(w,fun _=>True)∈ro1):aU (fun b=>wa.heap.size≤b) (fun b=>w.heap.size≤b) wb w0:=fun k hk hlt=>by
  obtain ⟨h1,h2⟩:=aU.made (w:=w) h hs hm (hm.base hw).size k hk hlt
  exact ⟨h1.1,h2⟩
theorem oC {l:List Seg} (h:¬okR l):uM l=([],11):=by unfold uM; rw [if_neg h]
theorem segD_at {l:List Seg} {n:Nat} (h:n < l.length):l[n]?=some (bu l n):=by unfold bu; rw [dP h,List.getElem?_eq_getElem h]
theorem wU {x:List (List ByteArray)} {n:Nat} (h:n < x.length):x[n]?=some (dE x n):=by unfold dE; rw [dP h,List.getElem?_eq_getElem h]
theorem wV {l:List Seg} (h:l.length - 2 < l.length):moaR l↔(bu l (l.length - 2)).els.length=1∧(dE (bu l (l.length - 2)).els 0).length=2:=by
  unfold moaR
  rw [segD_at h]
  constructor
  · rintro ⟨x,hx,h1,y,hy,h2⟩
    obtain rfl:=Option.some.inj hx
    rw [wU (by omega)] at hy
    obtain rfl:=Option.some.inj hy
    exact ⟨h1,h2⟩
  · intro ⟨h1,h2⟩
    exact ⟨_,rfl,h1,_,wU (by omega),h2⟩
theorem totE_in {l:List Seg} (h1:l.length - 2 < l.length) (h2:0 < (bu l (l.length - 2)).els.length) (h3:1 < (dE (bu l (l.length - 2)).els 0).length):dM l=(dE (bu l (l.length - 2)).els 0)[1]:=by
  unfold dM kD; rw [rT h1 h2 h3]; rfl
theorem kR {α:Type} (f:Nat→α) (k:Nat):(List.range (k+1)).map f=(List.range k).map f++[f k]:=by rw [List.range_succ,List.map_append]; rfl
end Go.PK

namespace Go.PK
open Go Go.RowKit
def vo (L:List ByteArray) (T:List (List ByteArray)):Prop:=L.map aM=T∧∀ s∈L,s.size≤100
theorem es_unh:vo [⟨#[49]⟩,⟨#[73,78,86,79,73,67,58,68,58,57,54,65,58,85,78]⟩] [[⟨#[49]⟩],[⟨#[73,78,86,79,73,67]⟩,⟨#[68]⟩,⟨#[57,54,65]⟩,⟨#[85,78]⟩]] :=
  ⟨by decide +kernel,by decide⟩
theorem es_bgm:vo [⟨#[51,56,48]⟩] [[⟨#[51,56,48]⟩]]:=⟨by decide +kernel,by decide⟩
theorem es_uns:vo [⟨#[83]⟩] [[⟨#[83]⟩]]:=⟨by decide +kernel,by decide⟩
theorem yv:aM ⟨#[]⟩=[⟨#[]⟩]:=by decide +kernel
theorem split_1:aM ⟨#[49]⟩=[⟨#[49]⟩]:=by decide +kernel
theorem jn {L:List ByteArray} {s:ByteArray} (h:s.size≤100) (t:∀ x∈L,x.size≤100):∀ x∈s::L,x.size≤100:=fun x hx=>by
  rcases List.mem_cons.1 hx with rfl | hx
  · exact h
  · exact t x hx
theorem rZ:∀ x∈([]:List ByteArray),x.size≤100:=fun x hx=>by cases hx
theorem es_lin {n:Int} {o:Ord} (hn:0≤n) (hi:aj n) (h1:0≤o.src) (h2:0≤o.num) (i1:aj o.src) (i2:aj o.num):vo [ai n,⟨#[]⟩,kw o.src o.num] [[ai n],[⟨#[]⟩],[dz o.src o.num,⟨#[83,82,86]⟩]] :=
  ⟨by rw [List.map_cons,List.map_cons,List.map_cons,List.map_nil,kM (hZ hn c58),yv,qC h1 h2],jn (Nat.le_trans (bo hi) (by decide)) (jn (by decide) (jn (Nat.le_trans (qu i1 i2) (by decide)) rZ))⟩
theorem es_p3 {a b:UInt8} {n:Int} (h:0≤n) (hi:aj n) (ha:a≠58) (hb:b≠58):vo [(⟨#[a,b,58]⟩:ByteArray)++ai n] [[⟨#[a,b]⟩,ai n]] :=
  ⟨by rw [List.map_cons,List.map_nil,pre3 h ha hb],jn (by rw [ByteArray.size_append]; have:=bo hi; show 3+_≤_; omega) rZ⟩
theorem es_p4 {a b d:UInt8} {n:Int} (h:0≤n) (hi:aj n) (ha:a≠58) (hb:b≠58) (hd:d≠58):vo [(⟨#[a,b,d,58]⟩:ByteArray)++ai n] [[⟨#[a,b,d]⟩,ai n]] :=
  ⟨by rw [List.map_cons,List.map_nil,pre4 h ha hb hd],jn (by rw [ByteArray.size_append]; have:=bo hi; show 4+_≤_; omega) rZ⟩
theorem es_unt {n:Int} (h:0≤n) (hi:aj n):vo [ai n,⟨#[49]⟩] [[ai n],[⟨#[49]⟩]] :=
  ⟨by rw [List.map_cons,List.map_cons,List.map_nil,kM (hZ h c58),split_1],jn (Nat.le_trans (bo hi) (by decide)) (jn (by decide) rZ)⟩
end Go.PK

namespace Go.PK
open Go Go.RowKit
theorem mx {n:Int} (h:aj n):(ai n).size≤2000000000:=Nat.le_trans (bo h) (by decide)
theorem vp {n:Int} (h:0≤n) (h2:n≤999999999):aj n:=by unfold aj; omega
theorem inv4_big {k:Nat} {o:Ord} (hk:k≤1000000) (h:ed (pf o)):∀ x∈ea k o,∀ y∈x.els,∀ s∈y,s.size≤2000000000:=by
  obtain ⟨_,_,⟨r1,r2⟩,⟨r3,r4⟩,⟨r5,r6⟩,⟨r7,r8⟩,r9,r10⟩:=jW h
  have k1:=mx (vp r1 r2)
  have k2:=mx (n:=((k+1:Nat):Int)) (by unfold aj; omega)
  have k3:=mx (vp r7 (show o.copies≤999999999 by omega))
  have k4:=mx (vp r9 r10)
  have k5:=qF r3 r4 r5 r6
  unfold ea
  simp only [List.forall_mem_cons,List.not_mem_nil,false_imp_iff,implies_true,and_true]
  repeat' apply And.intro
  all_goals first | decide | omega
theorem oG:∀ (ls:List Ord) (j:Nat),(∀ o∈ls,ed (pf o))→j+ls.length≤1000000→∀ x∈bY j ls,∀ y∈x.els,∀ s∈y,s.size≤2000000000
  | [],_,_,_=>fun x hx=>by cases hx
  | o::t,j,h,hj=>fun x hx=>by
    have hx:x∈ea j o++bY (j+1) t:=hx
    rw [List.length_cons] at hj
    rcases List.mem_append.1 hx with h1 | h1
    · exact inv4_big (by omega) (h o (List.mem_cons_self ..)) x h1
    · exact oG t (j+1) (fun p hp=>h p (List.mem_cons_of_mem _ hp)) (by omega) x h1
theorem yw {ls:List Ord} {t:ByteArray} (h:∀ o∈ls,ed (pf o)) (hn:ls.length≤1000) (ht:t.size≤2000000000):∀ x∈bm ls t,∀ y∈x.els,∀ s∈y,s.size≤2000000000:=fun x hx=>by
  unfold bm at hx
  rcases List.mem_append.1 hx with h1 | h1
  · rcases List.mem_append.1 h1 with h2 | h2
    · have hh:∀ x∈dB,∀ y∈x.els,∀ s∈y,s.size≤2000000000:=by
        unfold dB
        simp only [List.forall_mem_cons,List.not_mem_nil,false_imp_iff,implies_true,and_true]
        decide
      exact hh x h2
    · exact oG ls 0 h (by omega) x h2
  · have k1:=mx (n:=((4*ls.length+5:Nat):Int)) (by unfold aj; omega)
    have hh:∀ x∈eW ls.length t,∀ y∈x.els,∀ s∈y,s.size≤2000000000:=by
      unfold eW
      simp only [List.forall_mem_cons,List.not_mem_nil,false_imp_iff,implies_true,and_true]
      repeat' apply And.intro
      all_goals first | decide | omega
    exact hh x h1
theorem tY (ls:List Ord):∀ x∈bF ls,∀ y∈x.els,∀ s∈y,s.size≤2000000000:=by
  unfold bF
  by_cases h:dx ls
  · rw [if_pos h]
    obtain ⟨h1,h2,h3⟩:=id h
    obtain ⟨t1,t2⟩:=eX h3
    exact yw h3 (by omega) (mx (by unfold aj; omega))
  · rw [if_neg h]; intro x hx; cases hx
end Go.PK

namespace Go.PK
open Go Go.RowKit
def qL (s:ByteArray) (a:Nat) (l:List UInt8):Prop:=s.data.toList.drop a=l∧a≤s.size
theorem ba_len (s:ByteArray):s.data.toList.length=s.size:=by rw [Array.length_toList]; rfl
theorem qL.cons {s:ByteArray} {a:Nat} {x:UInt8} {l:List UInt8} (h:qL s a (x::l)):a < s.size∧ad s a=x∧qL s (a+1) l:=by
  obtain ⟨h1,h2⟩:=h
  have hl:=congrArg List.length h1
  rw [List.length_drop,ba_len,List.length_cons] at hl
  have hlt:a < s.size:=by omega
  have h3:s.data.toList[a]?=some x:=by
    have:=congrArg (fun q=>q[0]?) h1
    simpa [List.getElem?_drop] using this
  refine ⟨hlt,?_,?_,by omega⟩
  · unfold ad; rw [List.getD_eq_getElem?_getD,h3]; rfl
  · have:=congrArg (List.drop 1) h1
    rw [List.drop_drop] at this
    simpa using this
theorem qL.nil {s:ByteArray} {a:Nat} (h:qL s a []):a=s.size:=by
  obtain ⟨h1,h2⟩:=h
  have hl:=congrArg List.length h1
  rw [List.length_drop,ba_len,List.length_nil] at hl
  omega
theorem yx (t:ByteArray):(⟨t.data.toList.toArray⟩:ByteArray)=t:=by simp
end Go.PK

namespace Go.PK
open Go Go.RowKit
theorem sign_no {y:UInt8} (h:mS y≠true):y≠58∧y≠43∧y≠63∧y≠39:=by
  refine ⟨?_,?_,?_,?_⟩ <;> (rintro rfl; exact h (by decide))
theorem lK {s:ByteArray} {x:UInt8} (hx:x=58∨x=43∨x=39):∀ (t b:List UInt8) (a:Nat) (l:List UInt8),qL s a (eA t++x::l)→∃ a',cD s bL a b=some (b++t,x,a')∧qL s a' l
  | [],b,a,l,h=>by
    obtain ⟨k1,k2,k3⟩:=qL.cons (by simpa [eA] using h)
    refine ⟨a+1,?_,k3⟩
    rw [eL,if_pos k1,k2,if_pos (show x=bL.c∨x=bL.e∨x=bL.n from hx),List.append_nil]
  | y::t,b,a,l,h=>by
    by_cases hy:mS y=true
    · have h':qL s a (63::y::(eA t++x::l)):=by
        rw [iK] at h; unfold pP at h; rw [if_pos hy] at h; simpa using h
      obtain ⟨k1,k2,k3⟩:=h'.cons
      obtain ⟨k4,k5,k6⟩:=k3.cons
      obtain ⟨a',e1,e2⟩:=lK hx t (b++[y]) (a+2) l k6
      refine ⟨a',?_,e2⟩
      rw [eL,if_pos k1,k2,if_neg (show ¬((63:UInt8)=bL.c∨(63:UInt8)=bL.e∨(63:UInt8)=bL.n) by decide),if_pos (show (63:UInt8)=bL.r from rfl),if_neg (by omega),k5,e1]
      simp
    · have h':qL s a (y::(eA t++x::l)):=by
        rw [iK] at h; unfold pP at h; rw [if_neg hy] at h; simpa using h
      obtain ⟨k1,k2,k3⟩:=h'.cons
      obtain ⟨a',e1,e2⟩:=lK hx t (b++[y]) (a+1) l k3
      obtain ⟨n1,n2,n3,n4⟩:=sign_no hy
      refine ⟨a',?_,e2⟩
      rw [eL,if_pos k1,k2,if_neg (show ¬(y=bL.c∨y=bL.e∨y=bL.n) from fun q=>by rcases q with q | q | q; (· exact n1 q); (· exact n2 q); exact n4 q),if_neg (show ¬y=bL.r from n3),e1]
      simp
theorem qM {s:ByteArray} {x:UInt8} (hx:x=43∨x=39):∀ (ts:List ByteArray) (t:ByteArray) (c:UInt8) (a:Nat) (out ys:List (List ByteArray)) (y:List ByteArray) (l:List UInt8),jN bL c out=ys++[y]→c≠39 →
    qL s a (eA (bl t)++(mn 58 ts++x::l))→∃ a',iW s bL c a out=iW s bL x a' (ys++[y++t::ts])∧qL s a' l
  | [],t,c,a,out,ys,y,l,ho,hc,h=>by
    obtain ⟨a',e,h'⟩:=lK (x:=x) (.inr hx) (bl t) [] a l (by simpa [mn] using h)
    refine ⟨a',?_,h'⟩
    rw [qj,if_neg (show ¬c=bL.n from hc),e]
    dsimp only
    rw [List.nil_append,ft,ho,gd]
  | t2::ts,t,c,a,out,ys,y,l,ho,hc,h=>by
    obtain ⟨a1,e,h1⟩:=lK (x:=58) (.inl rfl) (bl t) [] a (eA (bl t2)++(mn 58 ts++x::l)) (by simpa [mn] using h)
    obtain ⟨a',e2,h2⟩:=qM hx ts t2 58 a1 (ys++[y++[t]]) ys (y++[t]) l (if_neg (by decide)) (by decide) h1
    refine ⟨a',?_,h2⟩
    rw [qj,if_neg (show ¬c=bL.n from hc),e]
    dsimp only
    rw [List.nil_append,ft,ho,gd,e2,List.append_assoc]
    rfl
theorem tZ (es:List (List ByteArray)) (he:∀ e∈es,e≠[]) (l:List UInt8):∃ x l',es.flatMap (mn 43)++39::l=x::l'∧(x=43∨x=39):=by
  cases es with
  | nil=>exact ⟨39,l,rfl,.inr rfl⟩
  | cons e es =>
    cases e with
    | nil=>exact absurd rfl (he [] (by simp))
    | cons t ts=>exact ⟨43,eA (bl t)++mn 58 ts++(es.flatMap (mn 43)++39::l),by simp [mn,List.flatMap_cons],.inl rfl⟩
theorem el_all {s:ByteArray} {l:List UInt8}:∀ (es:List (List ByteArray)),(∀ e∈es,e≠[])→∀ (c:UInt8) (a:Nat) (out:List (List ByteArray)) (l':List UInt8),es.flatMap (mn 43)++39::l=c::l'→qL s a l' →
    ∃ a',iW s bL c a out=some (out++es,a')∧qL s a' l
  | [],_,c,a,out,l',h,hs=>by
    have h:39::l=c::l':=h
    injection h with h1 h2
    subst h1 h2
    exact ⟨a,by rw [qj,if_pos (show (39:UInt8)=bL.n from rfl),List.append_nil],hs⟩
  | e::es,he,c,a,out,l',h,hs=>by
    cases e with
    | nil=>exact absurd rfl (he [] (by simp))
    | cons t ts =>
      have h:43::((eA (bl t)++mn 58 ts)++(es.flatMap (mn 43)++39::l))=c::l':=by rw [← h]; simp [mn,List.flatMap_cons]
      injection h with h1 h2
      subst h1
      have he':∀ e∈es,e≠[]:=fun e h=>he e (List.mem_cons_of_mem _ h)
      obtain ⟨x,l2,e2,hx⟩:=tZ es he' l
      rw [e2,List.append_assoc] at h2
      obtain ⟨a1,e3,h3⟩:=qM hx ts t 43 a out out [] l2 (if_pos rfl) (by decide) (by rw [h2]; exact hs)
      obtain ⟨a',e4,h4⟩:=el_all es he' x a1 (out++[[]++t::ts]) l2 e2 h3
      exact ⟨a',by rw [e3,e4,List.append_assoc]; rfl,h4⟩
theorem yy {c:UInt8} (h:ez c=true):d5 c≠true:=by
  unfold ez at h
  simp only [decide_eq_true_eq] at h
  unfold d5
  simp only [ne_eq,Bool.or_eq_true,decide_eq_true_eq,not_or]
  refine ⟨⟨?_,?_⟩,?_⟩ <;> (rintro rfl; revert h; decide)
theorem oH {x:Seg} (h:co x=true):x.tag.size=3∧(∀ c∈bl x.tag,ez c=true)∧∀ e∈x.els,e≠[]:=by
  unfold co at h
  simp only [Bool.and_eq_true,decide_eq_true_eq,Bool.not_eq_true',List.any_eq_false] at h
  obtain ⟨⟨h1,h2⟩,h3⟩:=h
  refine ⟨h1,fun c hc=>by have:=h2 c hc; simpa using this,fun e he hn=>?_⟩
  have:=h3 e he
  rw [hn] at this
  exact this rfl
theorem par_sg {s:ByteArray} {x:Seg} (hr:co x=true) {a:Nat} {l:List UInt8} {out:List Seg} (ho:out.length < 10000) (h:qL s a (sgT x++l)):∃ a',lB s bL a out=lB s bL a' (out++[x])∧qL s a' l:=by
  obtain ⟨h1,h2,h3⟩:=oH hr
  obtain ⟨tg,els⟩:=x
  dsimp only at h1 h2 h3
  have hl3:(bl tg).length=3:=by rw [a7,h1]
  obtain ⟨c1,c2,c3,hbt⟩:∃ c1 c2 c3,bl tg=[c1,c2,c3]:=by
    match hb:bl tg,hl3 with
    | [c1,c2,c3],_=>exact ⟨c1,c2,c3,rfl⟩
  have hc1:=h2 c1 (by rw [hbt]; simp)
  have hc2:=h2 c2 (by rw [hbt]; simp)
  have hc3:=h2 c3 (by rw [hbt]; simp)
  obtain ⟨x,l',hel,hx⟩:=tZ els h3 l
  have h0:qL s a (c1::c2::c3::x::l'):=by
    have e:sgT ⟨tg,els⟩++l=c1::c2::c3::(els.flatMap (mn 43)++39::l):=by unfold sgT; dsimp only; rw [hbt]; simp
    rw [e,hel] at h; exact h
  obtain ⟨k1,k2,h5⟩:=h0.cons
  obtain ⟨k3,k4,h6⟩:=h5.cons
  obtain ⟨k5,k6,h7⟩:=h6.cons
  obtain ⟨k7,k8,h8⟩:=h7.cons
  have hskip:bG s a=a:=eF (fun hh=>by rw [k2] at hh; exact yy hc1 hh.2)
  have htag:aP s a=tg:=by
    have hb3:aP s a=s.extract a (a+3):=by unfold aP; rw [show min (a+3) s.size=a+3 by omega]
    have hl:(aP s a).data.toList=[c1,c2,c3]:=by
      rw [hb3,ByteArray.data_extract,Array.toList_extract,List.extract_eq_take_drop,h0.1]
      rw [show a+3 - a=3 by omega]
      rfl
    rw [← yx (aP s a),hl,← hbt,ft]
  have hall:jL (aP s a):=by
    rw [htag]; intro j hj
    have:ez ((bl tg)[j]'(by rw [a7]; exact hj))=true:=h2 _ (List.getElem_mem _)
    rwa [io] at this
  have hT:cR s bL a=((aP s a,0,0),a+3):=by
    unfold cR
    rw [if_neg (fun hh=>hh hall),htag]
    rw [if_neg (show ¬(tg.size < 3∨a+tg.size=s.size) from fun hh=>by rw [h1] at hh; omega)]
    rw [if_neg (show ¬(ad s (a+tg.size)≠bL.e∧ad s (a+tg.size)≠bL.n) from fun hh=>by
      rw [h1,show a+3=a+1+1+1 by omega,k8] at hh
      rcases hx with q | q
      · exact hh.1 q
      · exact hh.2 q)]
    rw [h1]
  obtain ⟨a',e4,h9⟩:=el_all els h3 x (a+1+1+1+1) [] l' hel h8
  refine ⟨a',?_,h9⟩
  rw [jO s bL a out (by omega),hskip,if_pos k1,if_neg (by omega),hT]
  dsimp only
  rw [if_neg (show ¬(0:Int)≠0 by decide),show a+3=a+1+1+1 by omega,k8,e4,htag]
  rfl
theorem par_wr {s:ByteArray}:∀ (ls:List Seg) (a:Nat) (out:List Seg),(∀ x∈ls,co x=true)→out.length+ls.length≤10000→qL s a (fR ls)→lB s bL a out=(out++ls,0,0)
  | [],a,out,_,ho,h=>by
    have ha:a=s.size:=qL.nil h
    subst ha
    rw [jO s bL _ out (Nat.le_refl _),eF (by omega),if_neg (by omega),List.append_nil]
  | x::ls,a,out,hr,ho,h=>by
    simp only [List.length_cons] at ho
    obtain ⟨a',e,h'⟩:=par_sg (hr x (by simp)) (l:=fR ls) (out:=out) (by omega) (by have:=h; unfold fR at this; rw [List.flatMap_cons] at this; exact this)
    rw [e,par_wr ls a' (out++[x]) (fun y hy=>hr y (List.mem_cons_of_mem _ hy)) (by simp; omega) h']
    simp
theorem yz {ls:List Seg} (hn:ls.length≤10000) (hg:∀ k (h:k < ls.length),ju k ls[k]):aJ ⟨(fR ls).toArray⟩=(ls,0,0):=by
  have hd:(⟨(fR ls).toArray⟩:ByteArray).data.toList=fR ls:=by simp
  have h0:qL (⟨(fR ls).toArray⟩:ByteArray) 0 (fR ls):=⟨by rw [List.drop_zero,hd],Nat.zero_le _⟩
  have hr:∀ x∈ls,co x=true:=fun x hx=>by
    obtain ⟨k,hk,rfl⟩:=List.mem_iff_getElem.1 hx
    exact (hg k hk).1
  have hu:¬pJ ⟨(fR ls).toArray⟩:=by
    rintro ⟨hs,he⟩
    cases ls with
    | nil=>have:(⟨(fR []).toArray⟩:ByteArray).size=0:=rfl; omega
    | cons x t =>
      obtain ⟨h1,_⟩:=oH (hr x (by simp))
      refine (hg 0 (by simp)).2 ⟨rfl,?_⟩
      have hl:(ByteArray.extract ⟨(fR (x::t)).toArray⟩ 0 3).data.toList=bl x.tag:=by
        rw [ByteArray.data_extract,Array.toList_extract,List.extract_eq_take_drop,hd]
        unfold fR sgT
        rw [List.flatMap_cons]
        simp only [List.drop_zero,List.append_assoc]
        rw [List.take_left' (by rw [a7,h1])]
      rw [he] at hl
      show x.tag=lH
      rw [← ft x.tag,← hl]
      rfl
  rw [iI]
  unfold cf
  rw [if_neg hu]
  dsimp only
  have:=par_wr ls 0 [] hr (by simpa using hn) h0
  simpa using this
end Go.PK

namespace Go.PK
open Go Go.RowKit
structure FSt where
  al:Int
  sp:Int
  en:Int
deriving DecidableEq
def FSt.free (f:FSt):Int:=f.al - f.sp - f.en
def aQ (f:FSt):Prop:=0≤f.sp∧0≤f.en∧f.sp+f.en≤f.al∧f.al≤1000000000000000
def bH (f:FSt) (n:Int):Int×FSt:=if n < 0 then (1,f) else if n > f.free then (60,f) else (0,{ f with en:=f.en+n })
def aR (f:FSt) (n:Int):Int×FSt:=if n < 0 then (1,f) else if n > f.en then (60,f) else (0,{ f with en:=f.en - n })
def bI (f:FSt) (n:Int):Int×FSt:=if n < 0 then (1,f) else if n > f.free then (60,f) else (0,{ f with sp:=f.sp+n })
theorem enc_ok {f:FSt} {n:Int} (h:aQ f):aQ (bH f n).2:=by
  unfold bH FSt.free; unfold aQ at h ⊢
  split
  · exact h
  · split
    · exact h
    · dsimp only; omega
theorem my {f:FSt} {n:Int} (h:aQ f):aQ (aR f n).2:=by
  unfold aR; unfold aQ at h ⊢
  split
  · exact h
  · split
    · exact h
    · dsimp only; omega
theorem vq {f:FSt} {n:Int} (h:aQ f):aQ (bI f n).2:=by
  unfold bI FSt.free; unfold aQ at h ⊢
  split
  · exact h
  · split
    · exact h
    · dsimp only; omega
def lL (tol p q:Int):Prop:=1000*max (p - q) (q - p)≤tol*q
instance (tol p q:Int):Decidable (lL tol p q):=by unfold lL; infer_instance
def aK (x:Ord):Int:=(x.prom - x.paid)*x.price
def bj (x:Ord):Ord:={ x with prom:=x.copies,paid:=0,st:=0 }
def aY (x a:Ord):Ord:={ x with prom:=a.copies,price:=a.price }
def bw (tol:Int) (ln:Ord) (x:Option (Ord×Int)):Int :=
  match x with
  | none=>32
  | some (x,_) =>
    if x.st=-1 then 50
    else if ¬(x.src=ln.src∧x.num=ln.num) then 1
    else if ln.copies > x.st - x.paid then 50
    else if ¬lL tol ln.price x.price then 61
    else 0
end Go.PK

namespace Go.PK
open Go Go.RowKit Go.Maps
def bN (mF:Nat) (money:Int):List Value:=[.map (some mF),.int .i64 money]
def cF (pF:Nat) (tol:Int) (mO:Nat):List Value:=[.pointer (some ⟨pF,0,none⟩),.int .i64 tol,.map (some mO)]
def bp (x:Ord) (first:Int):List Value:=x.cells++[Value.int .i64 first]
def yC (x:Ord) (first:Int):Value:=.agg (bp x first).toArray
section
variable {P:Program} {n:Nat} {l:List (Nat×Value)} {own:List (Nat×Obj)} {ro:List au} {ty:TypeId} {x y m:Operand} {t t' kt e:TypeId} {b:Nat} {es:Array MapEntry} {clock:Nat} {f:Value→Option Value}
theorem v_nep {p:Option Addr} {q:TypeId} (ht:P.underlying t=some (.pointer q)) (hx:ev l x=some (.pointer p)) (hy:ev l y=some (.pointer none)):cv P n l own ro (.binOp .neq t x y t') ty (.bool (!p.isNone)):=by
  intro A w o ha _ ho _
  have h:∀ d:Nat,(Op.equalIn (d+1) t (.pointer p) (.pointer none)).run P w=.ok p.isNone w:=fun d=>by
    cases p <;> simp [Op.equalIn,run_underlying ht]
  have h2:(Op.equal t (.pointer p) (.pointer none)).run P w=.ok p.isNone w:=h 9999
  simp [execOp,ho,ha.eval hx,ha.eval hy,eqGuard,binOp,h2]
theorem v_eqm {p:Option Nat} {q r:TypeId} (ht:P.underlying t=some (.map q r)) (hx:ev l x=some (.map p)) (hy:ev l y=some (.map none)):cv P n l own ro (.binOp .eql t x y t') ty (.bool p.isNone):=by
  intro A w o ha _ ho _
  have h:∀ d:Nat,(Op.equalIn (d+1) t (.map p) (.map none)).run P w=.ok p.isNone w:=fun d=>by
    cases p <;> simp [Op.equalIn,run_underlying ht]
  have h2:(Op.equal t (.map p) (.map none)).run P w=.ok p.isNone w:=h 9999
  simp [execOp,ho,ha.eval hx,ha.eval hy,eqGuard,binOp,h2]
theorem lM {u z:Value} {lx:Lit} (ht:P.underlying t=some (.map kt e)) (KK:Keyed P kt) (hz:(P.info? e).bind (·.zero)=some z) (hm:ev l m=some (.map none)) (hx:ev l x=some u) (hkey:keyOf P kt u=some lx):cv P n l own ro (.lookup t m x false) ty z:=by
  intro A w o ha hw ho _
  have h1:(Instr.findKey kt u []).run P w=.ok none w:=by
    rcases (MapF.empty (P:=P) (kt:=kt)).find KK hkey w with ⟨h1,_⟩ | ⟨j,e,_,h2,_⟩
    · exact h1
    · simp at h2
  simp [execOp,ho,ha.eval hm,ha.eval hx,Instr.lookup,run_underlying ht,KK.check w _ hkey,cw hz,Result.andThen,h1]
def oJ (own:List (Nat×Obj)) (ro:List au) (b:Nat) (es:Array MapEntry) (clock:Nat):Prop:=∀ w,Mem w own ro→w.heap[b]?=some (.map es clock)
theorem cd (h:(b,Obj.map es clock)∈own):oJ own ro b es clock:=fun w hw=>hw.own_at _ h
theorem jo {ws:World} {D:Nat→Prop} (hs:(ws,D)∈ro) (hD:D b) (h:ws.heap[b]?=some (.map es clock)):oJ own ro b es clock:=fun w hw=>(hw.ro_at _ hs b hD (dO h)).trans h
theorem ct {u v z:Value} {lx:Lit} (ht:P.underlying t=some (.map kt e)) (KK:Keyed P kt) (hz:(P.info? e).bind (·.zero)=some z) (hm:ev l m=some (.map (some b))) (hx:ev l x=some u) (hkey:keyOf P kt u=some lx)
    (hb:oJ own ro b es clock) (hf:MapF P kt es f) (hv:(f u).getD z=v):cv P n l own ro (.lookup t m x false) ty v:=by
  intro A w o ha hw ho _
  have hg:=hb w hw
  subst hv
  rcases hf.find KK hkey w with ⟨h1,h2⟩ | ⟨j,e,h1,h2,h3,h4⟩
  · simp [execOp,ho,ha.eval hm,ha.eval hx,Instr.lookup,run_underlying ht,MapKept.run_getObj_map hg,KK.check w _ hkey,h1,cw hz,h2,Result.andThen]
  · simp [execOp,ho,ha.eval hm,ha.eval hx,Instr.lookup,run_underlying ht,MapKept.run_getObj_map hg,KK.check w _ hkey,h1,h4,Result.andThen]
theorem cE {u v z:Value} {lx:Lit} {c:Bool} (ht:P.underlying t=some (.map kt e)) (KK:Keyed P kt) (hz:(P.info? e).bind (·.zero)=some z) (hm:ev l m=some (.map (some b))) (hx:ev l x=some u) (hkey:keyOf P kt u=some lx)
    (hb:oJ own ro b es clock) (hf:MapF P kt es f) (hv:(f u).getD z=v) (hc:(f u).isSome=c):cv P n l own ro (.lookup t m x true) ty (.tuple #[v,.bool c]):=by
  intro A w o ha hw ho _
  have hg:=hb w hw
  subst hv hc
  rcases hf.find KK hkey w with ⟨h1,h2⟩ | ⟨j,e,h1,h2,h3,h4⟩
  · simp [execOp,ho,ha.eval hm,ha.eval hx,Instr.lookup,run_underlying ht,MapKept.run_getObj_map hg,KK.check w _ hkey,h1,cw hz,h2,Result.andThen]
  · simp [execOp,ho,ha.eval hm,ha.eval hx,Instr.lookup,run_underlying ht,MapKept.run_getObj_map hg,KK.check w _ hkey,h1,h4,Result.andThen]
theorem qN {tm:TypeId} (ht:P.underlying tm=some (.map kt e)) (hm:ev l m=some (.map (some b))) (hb:(b,Obj.map es clock)∈own):cv P n l own ro (.call ⟨.builtin .len,#[m],#[tm]⟩) ty (.int .i64 (es.size:Nat)):=by
  intro A w o ha hw ho _
  have hg:=hw.own_at _ hb
  simp [execOp,ho,resolve,invoke,builtin,Builtin.len_,goInt,run_underlying ht,ha.eval hm,MapKept.run_getObj_map hg,Result.andThen]
theorem sc {tm:TypeId} (ht:P.underlying tm=some (.map kt e)) (hm:ev l m=some (.map none)):cv P n l own ro (.call ⟨.builtin .len,#[m],#[tm]⟩) ty (.int .i64 0):=by
  intro A w o ha hw ho _
  simp [execOp,ho,resolve,invoke,builtin,Builtin.len_,goInt,run_underlying ht,ha.eval hm,Result.andThen]
end
end Go.PK

namespace Go.PK
open Go Go.RowKit
section
variable {P:Program} {n:Nat} {l:List (Nat×Value)} {own:List (Nat×Obj)} {ro:List au} {lops:List Oper} {Q:Exit→Act→World→Prop} {K:Act→World→Prop}
  {rest:List (Option Bool×Nat)} {k:Option Bool} {i d:Nat} {op:Op} {ty:TypeId} {pos:String} {af:Array Edge} {x y z':Operand} {t:TypeId}
end
end Go.PK

namespace Go.PK
open Go Go.RowKit
end Go.PK

namespace Go.PK
open Go Go.RowKit
def kS (x:Seg):Prop:=x.els.length≤100∧∀ y∈x.els,y.length≤100
def fewS (l:List Seg):Prop:=l.length≤10000∧∀ x∈l,kS x
theorem yD (o:Ord):fewS (aT o):=by
  unfold aT
  by_cases h:bT o=true
  · rw [if_pos h,ei (gI ((bz o).1 h))]
    unfold bR fewS kS
    simp only [List.forall_mem_cons,List.not_mem_nil,false_imp_iff,implies_true,and_true,List.length_cons,List.length_nil]
    decide
  · rw [if_neg h]; exact ⟨Nat.zero_le _,fun x hx=>by cases hx⟩
theorem kT:∀ (ls:List Ord) (j:Nat),∀ x∈bY j ls,kS x
  | [],_=>fun x hx=>by cases hx
  | o::t,j=>fun x hx=>by
    have hx:x∈ea j o++bY (j+1) t:=hx
    rcases List.mem_append.1 hx with h1 | h1
    · have hh:∀ x∈ea j o,kS x:=by
        unfold ea kS
        simp only [List.forall_mem_cons,List.not_mem_nil,false_imp_iff,implies_true,and_true,List.length_cons,List.length_nil]
        decide
      exact hh x h1
    · exact kT t (j+1) x h1
theorem wX (ls:List Ord):fewS (bF ls):=by
  unfold bF
  by_cases h:dx ls
  · rw [if_pos h]
    obtain ⟨h1,h2,h3⟩:=id h
    refine ⟨by rw [cL]; omega,fun x hx=>?_⟩
    unfold bm at hx
    rcases List.mem_append.1 hx with hx | hx
    · rcases List.mem_append.1 hx with hx | hx
      · have hh:∀ x∈dB,kS x:=by
          unfold dB kS
          simp only [List.forall_mem_cons,List.not_mem_nil,false_imp_iff,implies_true,and_true,List.length_cons,List.length_nil]
          decide
        exact hh x hx
      · exact kT ls 0 x hx
    · have hh:∀ x∈eW ls.length (ai (a8 ls)),kS x:=by
        unfold eW kS
        simp only [List.forall_mem_cons,List.not_mem_nil,false_imp_iff,implies_true,and_true,List.length_cons,List.length_nil]
        decide
      exact hh x hx
  · rw [if_neg h]; exact ⟨Nat.zero_le _,fun x hx=>by cases hx⟩
theorem nil_rd {α:Type} (T:Ty α) (D:Nat→Prop) (w:World):aa T D w (.slice none 0 0) []:=⟨none,0,rfl,Nat.le_refl _,Nat.zero_le _,fun h=>absurd h (Nat.not_lt_zero _)⟩
theorem Mem.join2 {w1 w2:World} {own1 own2:List (Nat×Obj)} {ro:List au} (h1:Mem w1 own1 ro) (h2:Mem w2 own2 [(w1,fun _=>True)]):Mem w2 (own2++own1) ro where
  own_at:=fun p hp=>by
    rcases List.mem_append.1 hp with hp | hp
    · exact h2.own_at p hp
    · exact (h2.ro_at _ (.head _) p.1 trivial (h1.lt hp)).trans (h1.own_at p hp)
  own_nd:=by
    rw [List.map_append,List.nodup_append]
    refine ⟨h2.own_nd,h1.own_nd,fun a ha b hb e=>?_⟩
    obtain ⟨p,hp,rfl⟩:=List.mem_map.1 ha
    obtain ⟨q,hq,rfl⟩:=List.mem_map.1 hb
    have a1:=h2.apart p hp _ (.head _) trivial
    have a2:=h1.lt hq
    simp only at a1; omega
  ro_st:=(h1.join h2).ro_st
  ro_at:=(h1.join h2).ro_at
  apart:=fun p hp s hs hd=>by
    rcases List.mem_append.1 hp with hp | hp
    · exact (h1.join h2).apart p hp s hs hd
    · exact h1.apart p hp s hs hd
end Go.PK

namespace Go.PK
open Go Go.RowKit
theorem wY:∀ l:List UInt8,(eA l).length≤2*l.length
  | []=>Nat.le_refl _
  | c::l=>by
    rw [iK,List.length_append,List.length_cons]
    have:=wY l
    unfold pP
    split <;> simp only [List.length_cons,List.length_nil] <;> omega
theorem elT_le (M:Nat):∀ (c:UInt8) (e:List ByteArray),(∀ s∈e,s.size≤M)→(mn c e).length≤e.length*(1+2*M)
  | _,[],_=>Nat.zero_le _
  | c,t::ts,h=>by
    have h1:=elT_le M 58 ts fun s hs=>h s (List.mem_cons_of_mem _ hs)
    have h2:=wY (bl t)
    have h3:=h t (by simp)
    rw [a7] at h2
    show (c::(eA (bl t)++mn 58 ts)).length≤_
    rw [List.length_cons,List.length_append,List.length_cons,Nat.add_mul]; omega
def kF (x:Seg):Prop:=co x=true∧x.tag≠lH∧kS x∧∀ y∈x.els,∀ s∈y,s.size≤100
theorem els_le:∀ (es:List (List ByteArray)),(∀ y∈es,y.length≤100∧∀ s∈y,s.size≤100)→(es.flatMap (mn 43)).length≤es.length*20100
  | [],_=>Nat.zero_le _
  | e::es,h=>by
    have h1:=els_le es fun y hy=>h y (List.mem_cons_of_mem _ hy)
    obtain ⟨h2,h3⟩:=h e (by simp)
    have h4:=elT_le 100 43 e h3
    have h5:e.length*201≤100*201:=Nat.mul_le_mul_right _ h2
    rw [List.flatMap_cons,List.length_append,List.length_cons,Nat.add_mul]; omega
theorem vt:∀ (l:List Seg),(∀ x∈l,kF x)→(fR l).length≤l.length*2010004
  | [],_=>Nat.zero_le _
  | x::l,h=>by
    have h1:=vt l fun y hy=>h y (List.mem_cons_of_mem _ hy)
    obtain ⟨h2,_,⟨h3,h4⟩,h5⟩:=h x (by simp)
    obtain ⟨h6,_⟩:=oH h2
    have h7:=els_le x.els fun y hy=>⟨h4 y hy,h5 y hy⟩
    have h8:x.els.length*20100≤100*20100:=Nat.mul_le_mul_right _ h3
    unfold fR at h1 ⊢
    rw [List.flatMap_cons,List.length_append]
    unfold sgT at h1 ⊢
    rw [List.length_append,List.length_append,a7,h6]
    simp only [List.length_cons,List.length_nil]
    rw [Nat.add_mul]; omega
theorem qO {l:List Seg} (h:∀ x∈l,kF x):∀ k (hk:k < l.length),ju k l[k]:=fun k hk=>by
  obtain ⟨h1,h2,_⟩:=h l[k] (List.getElem_mem hk)
  exact ⟨h1,fun q=>h2 q.2⟩
theorem iP {l:List Seg} (hn:l.length≤60) (h:∀ x∈l,kF x):uK l=(⟨(fR l).toArray⟩,0)∧(⟨(fR l).toArray⟩:ByteArray).size≤200000000∧aJ ⟨(fR l).toArray⟩=(l,0,0):=by
  refine ⟨wrR_ok (by omega) (qO h),?_,yz (by omega) (qO h)⟩
  have:=vt l h
  show (List.toArray _).size≤_
  rw [List.size_toArray]; omega
theorem oL {o:Ord} (hw:bT o=true):∀ x∈aT o,kF x:=by
  have hr:=(bz o).1 hw
  intro x hx
  have hf:=(yD o).2 x hx
  revert x
  unfold aT
  rw [if_pos hw,ei (gI hr)]
  obtain ⟨⟨a1,a2⟩,⟨b1,b2⟩,⟨c1,c2⟩,⟨d1,d2⟩,⟨e1,e2⟩,⟨f1,f2⟩⟩:=hr
  have k1:=dw (show 0≤o.id by omega) a2
  have k2:=dw (show 0≤o.fund by omega) b2
  have k3:=dw (show 0≤o.copies by omega) (show o.copies≤999999999 by omega)
  have k4:=dw e1 e2
  have k5:=qF c1 c2 d1 d2
  have k6:=dw (show (0:Int)≤1 by omega) (by omega)
  have hs:∀ x∈bR o,∀ y∈x.els,∀ s∈y,s.size≤100:=by
    unfold bR
    simp only [List.forall_mem_cons,List.not_mem_nil,false_imp_iff,implies_true,and_true]
    repeat' apply And.intro
    all_goals first | decide | omega
  have ht:∀ x∈bR o,co x=true∧x.tag≠lH:=by
    unfold bR
    simp only [List.forall_mem_cons,List.not_mem_nil,false_imp_iff,implies_true,and_true]
    repeat' apply And.intro
    all_goals first | rfl | decide
  exact fun x hx hf=>⟨(ht x hx).1,(ht x hx).2,hf,hs x hx⟩
theorem yE {o:Ord} (hw:ed (pf o)):dx [o]∧∀ x∈bF [o],kF x:=by
  have hp:dx [o]:=⟨Nat.le_refl 1,(by decide:(1:Nat)≤999),fun p hp=>by rw [List.mem_singleton.1 hp]; exact hw⟩
  refine ⟨hp,?_⟩
  intro x hx
  have hf:=(wX [o]).2 x hx
  revert x
  have ht0:=eX (ls:=[o]) fun p hp=>by rw [List.mem_singleton.1 hp]; exact hw
  have k7:=lI (n:=a8 [o]) ht0.1 15
  unfold bF
  rw [if_pos hp]
  unfold bm
  obtain ⟨⟨a1,a2⟩,⟨b1,b2⟩,⟨c1,c2⟩,⟨d1,d2⟩,⟨e1,e2⟩,⟨f1,f2⟩⟩:=hw
  have a1:1≤o.id:=a1; have a2:o.id≤999999999:=a2; have c1:0≤o.src:=c1; have c2:o.src≤999999999:=c2; have d1:0≤o.num:=d1; have d2:o.num≤999999999:=d2
  have e1:0≤o.price:=e1; have e2:o.price≤999999999:=e2; have f1:1≤o.copies:=f1; have f2:o.copies≤9999:=f2
  have k1:=dw (show 0≤o.id by omega) a2
  have k3:=dw (show 0≤o.copies by omega) (show o.copies≤999999999 by omega)
  have k4:=dw e1 e2
  have k5:=qF c1 c2 d1 d2
  have k6:(ai ((0+1:Nat):Int)).size≤9:=dw (by decide) (by decide)
  have k8:(ai ((4*[o].length+5:Nat):Int)).size≤9:=dw (n:=9) (by decide) (by decide)
  have k9:(ai (a8 [o])).size≤100:=by
    have h10:(10:Int) ^ (15+1)=10000000000000000:=by decide
    have:a8 [o] < 10 ^ (15+1):=by rw [h10]; have:=ht0.2; simp only [List.length_singleton] at this; omega
    have:=k7.2 this
    omega
  have hs:∀ x∈(dB++bY 0 [o])++eW [o].length (ai (a8 [o])),∀ y∈x.els,∀ s∈y,s.size≤100:=by
    show ∀ x∈(dB++(ea 0 o++[]))++eW [o].length (ai (a8 [o])),_
    unfold dB ea eW
    simp only [List.forall_mem_cons,List.not_mem_nil,false_imp_iff,implies_true,and_true,List.cons_append,List.nil_append,List.append_nil]
    repeat' apply And.intro
    all_goals first | decide | omega
  have ht:∀ x∈(dB++bY 0 [o])++eW [o].length (ai (a8 [o])),co x=true∧x.tag≠lH:=by
    show ∀ x∈(dB++(ea 0 o++[]))++eW [o].length (ai (a8 [o])),_
    unfold dB ea eW
    simp only [List.forall_mem_cons,List.not_mem_nil,false_imp_iff,implies_true,and_true,List.cons_append,List.nil_append,List.append_nil]
    repeat' apply And.intro
    all_goals first | rfl | decide
  exact fun x hx hf=>⟨(ht x hx).1,(ht x hx).2,hf,hs x hx⟩
end Go.PK

namespace Go.PK
open Go Go.RowKit
theorem yF {n:Nat} {P:Program} {row:String} {args:Array Value} {w:World} {R:Value→World→Prop} (h:Rows P row args w R):RowsIn Fence.wide n P row args w R :=
  fun c cs _=>let ⟨v,w',r,s⟩:=h c cs; ⟨v,w',r,stepsIn_wide.2 s⟩
theorem oper_in {lr n:Nat} {P:Program} {o:Oper} {a:Act} {w:World} {K:Act→World→Prop} {Q:Exit→Act→World→Prop} (hd:∀ c,o.op≠.defer c) (h:o.wp P a w K Q):o.wpIn (Fence.wide.inRound lr) n P a w K Q:=by
  refine ⟨fun _ _=>trivial,?_⟩
  rw [Oper.semAt_eq _ _ _ hd]
  unfold Oper.wp at h
  cases hr:(execOp a.eval o).run P w with
  | ok x w' =>
    rw [hr] at h
    cases x with
    | value v=>exact h
    | skip=>exact h
    | defer d=>exact h
    | enter f args=>exact ⟨fun h=>by simp [Fence.wide] at h,callsIn_wide.2 h⟩
    | row row args=>exact ⟨fun h=>by simp [Fence.wide] at h,yF h⟩
    | _=>exact h.elim
  | halt x w' =>
    rw [hr] at h
    cases x <;> first | exact h | exact h.elim
section
variable {P:Program}
end
section
variable {P:Program} {oF:List (Nat×Obj)} {rF:List au}
end
theorem FH.none {n:Nat} {a:Act} (h1:a.tmps.size=n) (h2:a.defers=[]):FH n [] a:=⟨h1,h2,fun s v h=>by simp at h⟩
theorem FH.add {n d:Nat} {l:List (Nat×Value)} {a:Act} {v:Value} (h:FH n l a) (hv:a.tmps[d]?=some v):FH n ((d,v)::l) a:=⟨h.sz,h.df,fun s u hu=>by
  simp only [List.lookup_cons] at hu
  by_cases hs:s=d
  · subst hs; simp at hu; subst hu; exact hv
  · have:(s == d)=false:=by simpa using hs
    simp only [this] at hu
    exact h.at_ s u hu⟩
theorem Mem.three {W:World} {b1 b2 b3:Nat} {o1 o2 o3:Obj} (h1:W.heap[b1]?=some o1) (h2:W.heap[b2]?=some o2) (h3:W.heap[b3]?=some o3) (n1:b1≠b2) (n2:b1≠b3) (n3:b2≠b3) :
    Mem W [(b1,o1),(b2,o2),(b3,o3)] [(W,aZ [(b1,o1),(b2,o2),(b3,o3)])]:=by
  have h:Mem W [(b1,o1),(b2,o2),(b3,o3)] [] :=
    ⟨(fun p hp=>by simp at hp; rcases hp with rfl | rfl | rfl <;> assumption),(by simp; exact ⟨⟨n1,n2⟩,n3⟩),(fun s hs=>by cases hs),(fun s hs=>by cases hs),(fun p hp s hs=>by cases hs)⟩
  exact h.snap
end Go.PK

namespace Go.PK
open Go Go.RowKit
section
variable {P:Program} {m:Nat}
theorem yG {n:Nat} {o:Oper} {a:Act} {w:World} {K:Act→World→Prop} {Q:Exit→Act→World→Prop} (hd:∀ c,o.op≠.defer c) (h:o.wp P a w K Q):o.wpIn Fence.wide n P a w K Q:=by
  refine ⟨fun _ _=>trivial,?_⟩
  rw [Oper.semAt_eq _ _ _ hd]
  unfold Oper.wp at h
  cases hr:(execOp a.eval o).run P w with
  | ok x w' =>
    rw [hr] at h
    cases x with
    | value v=>exact h
    | skip=>exact h
    | defer d=>exact h
    | enter f args=>exact ⟨fun h=>by simp [Fence.wide] at h,callsIn_wide.2 h⟩
    | row row args=>exact ⟨fun h=>by simp [Fence.wide] at h,fun c cs _=>let ⟨v,w',r,s⟩:=h c cs; ⟨v,w',r,stepsIn_wide.2 s⟩⟩
    | _=>exact h.elim
  | halt x w' =>
    rw [hr] at h
    cases x <;> first | exact h | exact h.elim
structure Lets (F:Fence) (m:Nat) (P:Program):Prop where
  fn:∀ f,F.fn f
  op:∀ {o:Oper} {a:Act} {w:World} {K:Act→World→Prop} {Q:Exit→Act→World→Prop},(∀ c,o.op≠.defer c)→o.wp P a w K Q→o.wpIn F m P a w K Q
theorem qP:Lets Fence.wide m P:=⟨fun _=>trivial,fun hd h=>yG hd h⟩
theorem fC (lr:Nat):Lets (Fence.wide.inRound lr) m P:=⟨fun _=>trivial,fun hd h=>oper_in hd h⟩
theorem no_defer {lops:List Oper} (hd:lops.all (fun o=>match o.op with | .defer _=>false | _=>true)=true) {o:Oper} (ho:o∈lops):∀ c,o.op≠.defer c:=fun c e=>by
  have:=List.all_eq_true.1 hd o ho
  rw [e] at this; cases this
theorem fL {F:Fence} (hF:Lets F m P) {lops:List Oper} {Q:Exit→Act→World→Prop} {K:Act→World→Prop} (hd:lops.all (fun o=>match o.op with | .defer _=>false | _=>true)=true) {j:Nat} (hj:j≤lops.length)
    (hK:∀ a w,K a w→wpListIn F m P lops.toArray Q (lops.drop j) a w):∀ (k s:Nat) (a:Act) (w:World),s+k=j→gW P lops.toArray Q K ((List.range' s k).map fun i=>(none,i)) a w→wpListIn F m P lops.toArray Q (lops.drop s) a w
  | 0,s,a,w,hs,h=>by
    obtain rfl:s=j:=by omega
    exact hK a w (h w (Later.refl _))
  | k+1,s,a,w,hs,h=>by
    have hlt:s < lops.length:=by omega
    rw [List.drop_eq_getElem_cons hlt]
    rw [List.range'_succ,List.map_cons] at h
    simp only [gW,List.getElem?_toArray,List.getElem?_eq_getElem hlt] at h
    have h3:=h w (Later.refl _)
    refine wpListIn_step fun K' hK'=>?_
    split <;> rename_i hw
    · rw [if_pos hw] at h3
      exact hF.op (no_defer hd (List.getElem_mem hlt)) (Oper.wp_mono (fun a' w' hk'=>hK' _ _ (fL hF hd hj hK k (s+1) a' w' (by omega) hk')) h3)
    · rw [if_neg hw] at h3
      exact ⟨fun f _=>hF.fn f,hK' _ _ (fL hF hd hj hK k (s+1) _ w (by omega) h3)⟩
end
section
variable {P:Program} {m n:Nat} {l:List (Nat×Value)} {own:List (Nat×Obj)} {ro:List au} {F:Fence} {Q:Exit→Act→World→Prop}
def WI (F:Fence) (m:Nat) (P:Program) (c:Code) (Q:Exit→Act→World→Prop) (n:Nat) (l:List (Nat×Value)) (own:List (Nat×Obj)) (ro:List au):Prop :=
  ∀ a w,FH n l a→Mem w own ro→c.wpIn F m P Q a w
theorem vu {x y:Code} (h:WI F m P x (Exit.then (y.wpIn F m P Q) Q) n l own ro):WI F m P (.seq x y) Q n l own ro:=fun a w ha hw=>wpIn_seq (h a w ha hw)
theorem wi_block {id:Nat} {c:Code} (h:WI F m P c (Exit.inBlock id Q) n l own ro):WI F m P (.block id c) Q n l own ro:=fun a w ha hw=>wpIn_block (h a w ha hw)
theorem wi_skip (h:S (Q .normal) n l own ro):WI F m P .skip Q n l own ro:=fun a w ha hw=>wpIn_skip (h a w ha hw)
theorem wi_cond {c:Operand} {x y:Code} {t:Bool} (hc:ev l c=some (.bool t)) (ht:t=true→WI F m P x Q n l own ro) (hf:t=false→WI F m P y Q n l own ro):WI F m P (.cond c x y) Q n l own ro :=
  fun a w ha hw=>wpIn_cond_split (ha.eval hc) (fun h=>ht h a w ha hw) (fun h=>hf h a w ha hw)
theorem np {y:Code} (h:WI F m P y Q n l own ro):S (Exit.then (y.wpIn F m P Q) Q .normal) n l own ro:=h
theorem t_k {K:Act→World→Prop} (h:S K n l own ro):S (Exit.then K Q .normal) n l own ro:=h
theorem kg (hF:Lets F m P) {id:Nat} {lops:List Oper} (hd:lops.all (fun o=>match o.op with | .defer _=>false | _=>true)=true)
    (h:WX P lops.toArray Q (fun a w=>Q .normal a w) (dT 0 lops.length) n l own ro):WI F m P (.region id lops.toArray false) Q n l own ro:=fun a w ha hw =>
  wpIn_region_lit (by
    have:=fL hF (K:=fun a w=>Q .normal a w) hd (Nat.le_refl _) (fun a w hk=>by rw [List.drop_length]; exact hk) lops.length 0 a w (by omega) (h a w ha hw)
    rwa [List.drop_zero] at this)
theorem rg_yield {id:Nat} {lops:List Oper} (j m:Nat) (hd:lops.all (fun o=>match o.op with | .defer _=>false | _=>true)=true) (hj:decide (j≤lops.length)=true)
    (h:WX P lops.toArray Q (fun a w=>wpListIn Fence.wide m P lops.toArray Q (lops.drop j) a w) (dT 0 j) n l own ro):W P (.region id lops.toArray false) Q n l own ro:=fun a w ha hw =>
  (wpIn_wide (n:=m)).1 (wpIn_region_lit (by
    have:=fL (qP (m:=m) (P:=P)) hd (of_decide_eq_true hj) (fun a w hk=>hk) j 0 a w (by omega) (h a w ha hw)
    rwa [List.drop_zero] at this))
theorem s_yield {lops:List Oper} {j d t L:Nat} {xs:Array Operand} {tys:Array TypeId} {ty:TypeId} {pos:String} {af:Array Edge} {vs:List Value} {v:Value} {τ:Type} (I:τ→Prop) (O:τ→List (Nat×Obj))
    (ho:lops[j]?=some ⟨some d,.call ⟨.value (.tmp t),xs,tys⟩,ty,pos,af,none⟩) (hd:decide (d < n)=true) (hf:l.lookup t=some (.func (.yield L) #[] #[])) (hx:ll l xs.toList=some vs) (hm:decide (1≤m)=true)
    (hY:∀ w,Mem w own ro→YieldAt Fence.wide (m - 1) P L vs.toArray w fun e w'=>e=.returned v∧∃ x,I x∧Mem w' (O x) ro)
    (h:∀ x,I x→S (fun a w=>wpListIn Fence.wide m P lops.toArray Q (lops.drop (j+1)) a w) n ((d,v)::l) (O x) ro):S (fun a w=>wpListIn Fence.wide m P lops.toArray Q (lops.drop j) a w) n l own ro:=by
  intro a w ha hw
  have hlt:j < lops.length:=(List.getElem?_eq_some_iff.1 ho).1
  have he:lops[j]=⟨some d,.call ⟨.value (.tmp t),xs,tys⟩,ty,pos,af,none⟩:=by
    rw [List.getElem?_eq_getElem hlt] at ho; exact Option.some.inj ho
  obtain ⟨fn,tmps,assign,body,hy,hR⟩:=hY w hw
  show wpListIn Fence.wide m P lops.toArray Q (lops.drop j) a w
  rw [List.drop_eq_getElem_cons hlt,he]
  refine wpListIn_plain rfl fun K hK=>?_
  refine ⟨fun _ _=>trivial,?_⟩
  rw [Oper.semAt_eq _ _ _ (fun c e=>by cases e)]
  have hev:=ha.evals hx
  have hrun:(execOp a.eval ⟨some d,.call ⟨.value (.tmp t),xs,tys⟩,ty,pos,af,none⟩).run P w=.ok (.round L fn tmps assign body) w:=by
    have h1:(xs.map a.eval)=vs.toArray:=by
      apply Array.ext'
      rw [Array.toList_map,hev]
    have hft:a.tmps[t]?.getD undef=.func (.yield L) #[] #[]:=by rw [ha.at_ t _ hf]; rfl
    simp [execOp,resolve,hft,h1,go_sem,invoke,hy]
  rw [hrun]
  refine ⟨fun _=>of_decide_eq_true hm,?_⟩
  refine hR.mono ?_
  rintro e w' ⟨rfl,x,hI,hm'⟩
  exact hK _ _ (h x hI _ w' (ha.put v (of_decide_eq_true hd)) hm')
theorem s_rest {lops:List Oper} {j:Nat} (hd:lops.all (fun o=>match o.op with | .defer _=>false | _=>true)=true) (hj:decide (j≤lops.length)=true)
    (h:WX P lops.toArray Q (fun a w=>Q .normal a w) (dT j lops.length) n l own ro):S (fun a w=>wpListIn Fence.wide m P lops.toArray Q (lops.drop j) a w) n l own ro:=fun a w ha hw =>
  fL qP (K:=fun a w=>Q .normal a w) hd (Nat.le_refl _) (fun a w hk=>by rw [List.drop_length]; exact hk) (lops.length - j) j a w (by have:=of_decide_eq_true hj; omega) (h a w ha hw)
end
def jY (st:LoopState) (fn:FuncId) (tmps:Array Value) (ps:Array Tmp) (assign body:Code) (D:Nat):Loop:={ state:=st,pending:=none,fn,tmps,params:=ps,assign,body,defers:=D }
theorem jq {w:World} {g:Nat} {o o':Obj} (h:w.heap[g]?=some o):Turned w (w.putObj g o') g o':=gq h
section
variable {P:Program} {m n:Nat} {l:List (Nat×Value)} {own rest:List (Nat×Obj)} {ro:List au} {Q:Exit→Act→World→Prop} {R:Ending→World→Prop} {L:Nat} {fn:FuncId} {tmps:Array Value} {assign body:Code} {D:Nat}
theorem yH {w:World} {d1 d2:Nat} {v1 v2:Value} (hm:Mem w ((L,.loop (jY .ready fn tmps #[d1,d2] assign body D))::rest) ro) (hfh:FH n l ⟨tmps,[]⟩) (h1:decide (d1 < n)=true) (h2:decide (d2 < n)=true)
    (h:WI (Fence.wide.inRound L) m P assign (Exit.then (fun a w=>∃ w2,(Instr.beginRound L).run P w=.ok () w2∧body.wpIn (Fence.wide.inRound L) m P (roundPost P L R) a w2) (fun _ _ _=>False)) n ((d2,v2)::(d1,v1)::l) ((L,.loop (jY .ready fn tmps #[d1,d2] assign body D))::rest) ro) :
    YieldAt Fence.wide m P L #[v1,v2] w R:=by
  have hl:=hm.own_at _ (.head _)
  have hy:=run_yield (P:=P) (args:=#[v1,v2]) hl rfl
  refine ⟨fn,_,assign,body,hy,roundIn_of_wpIn trivial (h _ w ?_ hm)⟩
  have:=(hfh.put v1 (of_decide_eq_true h1)).put v2 (of_decide_eq_true h2)
  have e:(#[d1,d2]:Array Tmp).zip #[v1,v2]=#[(d1,v1),(d2,v2)]:=by
    apply Array.ext'
    simp
  show FH n ((d2,v2)::(d1,v1)::l) { tmps:=((#[d1,d2]:Array Tmp).zip #[v1,v2]).foldl (fun t (q:Tmp×Value)=>t.setIfInBounds q.1 q.2) tmps,defers:=[] }
  rw [e]
  exact this
theorem s_begin {st:LoopState} {ps:Array Tmp} (hst:st=.ready) (h:WI (Fence.wide.inRound L) m P body (roundPost P L R) n l ((L,.loop (jY .busy fn tmps ps assign body D))::rest) ro) :
    S (fun a w=>∃ w2,(Instr.beginRound L).run P w=.ok () w2∧body.wpIn (Fence.wide.inRound L) m P (roundPost P L R) a w2) n l ((L,.loop (jY st fn tmps ps assign body D))::rest) ro:=by
  subst hst
  intro a w ha hw
  have hl:=hw.own_at _ (.head _)
  exact ⟨_,run_beginRound hl rfl,h a _ ha (Mem.turn (l1:=[]) hw (jq hl))⟩
theorem wZ {ps:Array Tmp} (h:∀ w',Mem w' ((L,.loop (jY .ready fn tmps ps assign body D))::rest) ro→R (.returned (.bool true)) w') :
    S (roundPost P L R .normal) n l ((L,.loop (jY .busy fn tmps ps assign body D))::rest) ro:=by
  intro a w ha hw
  have hl:=hw.own_at _ (.head _)
  exact ⟨_,_,run_endRound none hl,h _ (Mem.turn (l1:=[]) hw (jq hl))⟩
def SD (D:Nat) (K:Act→World→Prop) (n:Nat) (l:List (Nat×Value)) (own:List (Nat×Obj)) (ro:List au):Prop :=
  ∀ a w,FH n l a→Mem w own ro→K { a with defers:=[{ target:=.collected D,args:=#[] }] } w
theorem w_range {g:Operand} {ps:Array Tmp} {gf:Nat} {lb:Array Value} {τ:Type} (I:τ→Prop) (O:τ→List (Nat×Obj)) (hg:ev l g=some (.func (.func gf) #[] lb)) (eg:∀ args w,(callFunc gf args).run P w=.ok (.enter gf args) w)
    (hc:∀ (L D:Nat) (fn:FuncId) (tmps:Array Value) (w1:World),FH n l ⟨tmps,[]⟩→Mem w1 ((L,.loop (jY .ready fn tmps ps assign body D))::(D,.deferred (some []))::own) ro →
      Calls P gf (#[.func (.yield L) #[] #[]]++lb) w1 fun e w2=>(∃ v,e=.returned v)∧∃ x,I x∧Mem w2 ((L,.loop (jY .ready fn tmps ps assign body D))::(D,.deferred (some []))::O x) ro)
    (h:∀ D x,I x→SD D (Q .normal) n l ((D,.deferred (some []))::O x) ro):W P (.rangeFunc g ps assign body) Q n l own ro:=by
  intro a w ha hw
  refine (wpIn_wide (n:=1)).1 (wpIn_rangeFunc ?_)
  intro fn _
  have hgv:=ha.eval hg
  have hdf:a.defers=[]:=ha.df
  have h1:Mem (w.alloc (.deferred (some []))) ((w.heap.size,.deferred (some []))::own) ro:=hw.new _
  have h2:Mem ((w.alloc (.deferred (some []))).alloc (.loop (jY .ready fn a.tmps ps assign body w.heap.size))) ((w.heap.size+1,.loop (jY .ready fn a.tmps ps assign body w.heap.size))::(w.heap.size,.deferred (some []))::own) ro:=by
    have h3:=h1.new (.loop (jY .ready fn a.tmps ps assign body w.heap.size))
    rwa [World.size_alloc] at h3
  have hfh:FH n l ⟨a.tmps,[]⟩:=⟨ha.sz,rfl,ha.at_⟩
  have hC:=hc _ _ fn a.tmps _ hfh h2
  have hC2:CallsIn Fence.wide 0 P gf (#[.func (.yield (w.heap.size+1)) #[] #[]]++lb) ((w.alloc (.deferred (some []))).alloc (.loop (jY .ready fn a.tmps ps assign body w.heap.size))) (rangePost Fence.wide 1 P (w.heap.size+1) Q { a with defers:=[{ target:=.collected w.heap.size,args:=#[] }]++a.defers }):=by
    refine callsIn_wide.2 (Calls.mono hC ?_)
    rintro e w2 ⟨⟨v,rfl⟩,x,hx,hm⟩
    have hl:=hm.own_at _ (.head _)
    refine ⟨none,_,run_endLoop hl (by simp [jY]),?_⟩
    have h4:=Mem.turn (l1:=[]) hm (jq (o':=.loop { jY .ready fn a.tmps ps assign body w.heap.size with state:=.exhausted }) hl)
    have h5:=h _ x hx a _ ha (h4.less (List.sublist_cons_self _ _) (fun _ h=>h))
    rw [hdf]
    exact h5
  clear hC h2 h1
  have hres:(resolve a.eval (rangeCall g (w.heap.size+1)) 0).run P ((w.alloc (.deferred (some []))).alloc (.loop (jY .ready fn a.tmps ps assign body w.heap.size)))=.ok { target:=.fn (.func gf) lb,args:=#[.func (.yield (w.heap.size+1)) #[] #[]] } ((w.alloc (.deferred (some []))).alloc (.loop (jY .ready fn a.tmps ps assign body w.heap.size))):=by
    simp only [resolve,hgv]
    simp [go_sem]
  have hinv:∀ W:World,(invoke (.fn (.func gf) lb) #[.func (.yield (w.heap.size+1)) #[] #[]]).run P W=.ok (.enter gf (#[.func (.yield (w.heap.size+1)) #[] #[]]++lb)) W:=fun W=>by simp [invoke,go_sem,eg]
  exact ⟨w.heap.size+1,[{ target:=.collected w.heap.size,args:=#[] }],_,_,_,gf,_,_,run_enterLoop_outer _ _ _ _ _,hres,fun _ _=>trivial,hinv _,fun h=>by simp [Fence.wide] at h,hC2⟩
theorem enterM {f:FuncId} {fd:Func} {c:Code} {vs:List Value} {w:World} (m:Nat) (hf:P.funcs[f]?=some fd) (hb:fd.body=some c) (hn:fd.ntmps=n) (hv:decide (vs.length≤n)=true)
    (h:W P c (bodyPostM Fence.wide m P fd R) n (nK 0 vs) [] [(w,fun _=>True)]):Calls P f vs.toArray w R:=by
  have hv':=of_decide_eq_true hv
  refine callsIn_wide.1 (callsIn_of_wp_marks hf hb trivial ((wpIn_wide (n:=m)).2 (h _ w ⟨by simp [hn]; omega,rfl,fun s v hs=>?_⟩ (Mem.init w))) rfl)
  obtain ⟨_,h2⟩:=f4 _ _ _ _ hs
  simp only [Nat.sub_zero] at h2
  have hlt:s < vs.length:=(List.getElem?_eq_some_iff.1 h2).1
  show (vs.toArray++_)[s]?=some v
  rw [Array.getElem?_append_left (by simpa using hlt)]
  simpa using h2
theorem w8 {y:Code} (h:SD D (y.wp P Q) n l own ro):SD D (Exit.then (y.wp P Q) Q .normal) n l own ro:=h
theorem sd_block {id:Nat} (h:SD D (Q .normal) n l own ro):SD D (Exit.inBlock id Q .normal) n l own ro:=h
theorem sd_seq {x y:Code} (h:SD D (x.wp P (Exit.then (y.wp P Q) Q)) n l own ro):SD D ((Code.seq x y).wp P Q) n l own ro:=fun a w ha hw=>wp_seq (h a w ha hw)
theorem sd_ret (h:SD D (Q .ret) n l own ro):SD D (Code.ret.wp P Q) n l own ro:=fun a w ha hw=>wp_ret (h a w ha hw)
def SDL (D:Nat) (P:Program) (ops:Array Oper) (Q:Exit→Act→World→Prop) (r:List Oper) (n:Nat) (l:List (Nat×Value)) (own:List (Nat×Obj)) (ro:List au):Prop :=
  SD D (fun a w=>wpList P ops Q r a w) n l own ro
theorem yI {id:Nat} {lops:List Oper} (h:SDL D P lops.toArray Q lops n l own ro):SD D ((Code.region id lops.toArray false).wp P Q) n l own ro:=fun a w ha hw=>wp_region_lit (h a w ha hw)
theorem se {ops:Array Oper} {d:Nat} {op:Op} {ty:TypeId} {pos:String} {af:Array Edge} {r:List Oper} {v:Value} (hd:decide (d < n)=true) (hv:cv P n l own ro op ty v) (h:SDL D P ops Q r n ((d,v)::l) own ro) :
    SDL D P ops Q (⟨some d,op,ty,pos,af,none⟩::r) n l own ro:=by
  intro a w ha hw
  refine wpList_step fun K hK=>?_
  rw [if_pos (by simp [Region.wanted])]
  have he:(Act.eval { a with defers:=[{ target:=.collected D,args:=#[] }] })=a.eval:=by funext x; cases x <;> rfl
  unfold Oper.wp
  rw [he,hv a w _ ha hw rfl rfl]
  exact hK _ _ (h _ w (ha.put v (of_decide_eq_true hd)) hw)
theorem sdl_end {ops:Array Oper} (h:SD D (Q .normal) n l own ro):SDL D P ops Q [] n l own ro:=h
theorem ret1M {fd:Func} {t:Tmp} {v:Value} (hr:fd.results=#[.tmp t]) (hv:l.lookup t=some v) (h:∀ w',Mem w' rest ro→R (.returned v) w'):SD D (bodyPostM Fence.wide m P fd R .ret) n l ((D,.deferred (some []))::rest) ro:=by
  intro a w ha hw
  have hl:=hw.own_at _ (.head _)
  have hm2:=(Mem.turn (l1:=[]) hw (jq (o':=.deferred none) hl)).less (List.sublist_cons_self _ _) (fun _ h=>h)
  refine ⟨by simp,.inl ⟨D,_,rfl,run_takeDeferred hl,v,?_,h _ hm2⟩⟩
  have:=ha.at_ t _ hv
  rw [results_tmp hr]
  simp [Array.getD_eq_getD_getElem?,this]
end
end Go.PK

namespace Go.PK
open Go Go.RowKit
def baseL:List Int→List Int→Int→Int
  | s::ss,l::ls,n=>baseL ss ls (n*l+s - 1)
  | _,_,n=>n
def lowP:List Int→Int→List Int×Int
  | [],r=>([],r)
  | l::ls,r=>(((lowP ls r).2%l+1)::(lowP ls r).1,(lowP ls r).2 / l)
def valL:List Int→List Int→Int→Int
  | n::ns,l::ls,k=>valL ns ls (k*l+n - 1)
  | _,_,k=>k
def sf (ss ls:List Int):Prop:=ss.length=ls.length∧∀ j (h1:j < ss.length) (h2:j < ls.length),1≤ls[j]∧ls[j]≤1000∧1≤ss[j]∧ss[j]≤ls[j]
theorem sf.tl {s l:Int} {ss ls:List Int} (h:sf (s::ss) (l::ls)):sf ss ls:=⟨by simpa using h.1,fun j h1 h2=>by
  have:=h.2 (j+1) (by simpa using h1) (by simpa using h2)
  simpa using this⟩
theorem sf.hd {s l:Int} {ss ls:List Int} (h:sf (s::ss) (l::ls)):1≤l∧l≤1000∧1≤s∧s≤l:=h.2 0 (by simp) (by simp)
end Go.PK

namespace Go.PK
open Go Go.RowKit
structure Pat where
  first:Int
  days:Int
  lv:List Int
  st:List Int
deriving DecidableEq
def lvAt (p:Pat) (j:Nat):Prop:=1≤p.lv.getD j 0∧p.lv.getD j 0≤1000∧1≤p.st.getD j 0∧p.st.getD j 0≤p.lv.getD j 0
instance (p:Pat) (j:Nat):Decidable (lvAt p j):=by unfold lvAt; infer_instance
def gK (p:Pat):Prop:=(1≤p.lv.length∧p.lv.length≤4∧p.st.length=p.lv.length∧p.lv.getD 0 0=0∧0≤p.st.getD 0 0∧p.st.getD 0 0≤1000000)∧(∀ j,j < p.lv.length→1≤j→lvAt p j)∧(1≤p.days∧p.days≤10000)∧lz p.first
instance (p:Pat):Decidable (gK p):=by unfold gK; infer_instance
theorem sg {l:List Int} {j:Nat} (h:j < l.length):l.getD j 0=l[j]:=by rw [List.getD_eq_getElem?_getD,List.getElem?_eq_getElem h]; rfl
theorem gK.split {p:Pat} (h:gK p):∃ s0 ls ss,p.lv=0::ls∧p.st=s0::ss∧0≤s0∧s0≤1000000∧sf ss ls∧ls.length≤3:=by
  obtain ⟨⟨h1,h2,h3,h4,h5,h6⟩,h7,_,_⟩:=h
  obtain ⟨f,d,lv,st⟩:=p
  dsimp only at h1 h2 h3 h4 h5 h6 h7
  cases lv with
  | nil=>simp at h1
  | cons a ls =>
    cases st with
    | nil=>simp at h3
    | cons s0 ss =>
      have h4:a=0:=h4
      subst h4
      refine ⟨s0,ls,ss,rfl,rfl,h5,h6,⟨by simpa using h3,fun j a b=>?_⟩,by simpa using h2⟩
      have:=h7 (j+1) (by simpa using b) (by omega)
      unfold lvAt at this
      dsimp only at this
      simp only [List.getD_cons_succ] at this
      rw [sg a,sg b] at this
      exact this
def baseP (p:Pat):Int:=baseL p.st.tail p.lv.tail 0
def lowK (p:Pat) (k:Int):List Int×Int:=lowP p.lv.tail (baseP p+k)
def numsP (p:Pat) (k:Int):List Int:=(p.st.headD 0+(lowK p k).2)::(lowK p k).1
theorem sf.one {ss ls:List Int} (h:sf ss ls):∀ l∈ls,1≤l:=fun l hl=>by
  obtain ⟨j,hj,rfl⟩:=List.mem_iff_getElem.1 hl
  exact (h.2 j (by rw [h.1]; exact hj) hj).1
def numK (p:Pat) (ns:List Int):Int:=valL ns.tail p.lv.tail (ns.getD 0 0 - p.st.getD 0 0) - baseP p
def yJ (p:Pat) (ns:List Int):Prop:=gK p∧ns.length=p.lv.length∧p.st.getD 0 0≤ns.getD 0 0∧ns.getD 0 0≤p.st.getD 0 0+100000∧(∀ j,j < ns.length→1≤j→1≤ns.getD j 0∧ns.getD j 0≤p.lv.getD j 0)∧0≤numK p ns∧numK p ns < 100000
instance (p:Pat) (ns:List Int):Decidable (yJ p ns):=by unfold yJ; infer_instance
def nf (p:Pat) (ns:List Int):Option Int:=if yJ p ns then some (numK p ns) else none
end Go.PK

namespace Go.PK
open Go Go.RowKit
theorem gK.at {p:Pat} (h:gK p) {j:Nat} (h1:1≤j) (h2:j < p.lv.length):1≤p.lv.getD j 0∧p.lv.getD j 0≤1000∧1≤p.st.getD j 0∧p.st.getD j 0≤p.lv.getD j 0:=h.2.1 j h2 h1
theorem yK (l:List Int) (j:Nat):l.tail.getD j 0=l.getD (j+1) 0:=by cases l <;> simp
section
variable {P:Program} {n:Nat} {l:List (Nat×Value)} {own:List (Nat×Obj)} {ro:List au} {lops:List Oper} {Q:Exit→Act→World→Prop} {K:Act→World→Prop}
  {rest:List (Option Bool×Nat)} {k:Option Bool} {i d:Nat} {op:Op} {ty:TypeId} {pos:String} {af:Array Edge} {x y z':Operand} {t t1 t2:TypeId}
end
end Go.PK

namespace Go.PK
open Go Go.RowKit
section
variable {P:Program} {H:Type} {enc:TypeId×Value→H} {W:World} {base b0:Nat} {sp:Nat→Bool} {held:Bool} {r:Reach} {t e:TypeId} {v:Value} {d:DataW H} {ps:List MemPlace}
theorem top_kn {k:IntKind} {n:Nat} (ht:P.underlying t=some (.array n e)) (hc:P.cellsOf t=n) (hn:0 < n) (he:P.underlying e=some (.int k)) (hce:P.cellsOf e=1) (hval:Value.okWide P W r b0 t v) (h:DataW.Trod enc P W base sp held t v d ps) :
    ∃ xs:List Int,v=.agg (xs.map (Value.int k)).toArray∧xs.length=n∧∀ x∈xs,k.min≤x∧x≤k.max:=by
  obtain ⟨cs,xs,rfl,hrd⟩:=top_agg ht rfl (rdr_arr (T:=tyK k) ht (by rw [hc]; exact (Nat.mul_one n).symm) hn (rdr_k he hce)) hval h
  obtain ⟨h1,h2,h3⟩:=arr_k hrd
  exact ⟨xs,by rw [← h1],h2,h3⟩
theorem top_k2 {k:IntKind} (ht:P.underlying t=some (.array 2 e)) (hc:P.cellsOf t=2) (he:P.underlying e=some (.int k)) (hce:P.cellsOf e=1) (hval:Value.okWide P W r b0 t v) (h:DataW.Trod enc P W base sp held t v d ps) :
    ∃ a b:Int,v=.agg #[.int k a,.int k b]∧(k.min≤a∧a≤k.max)∧k.min≤b∧b≤k.max:=by
  obtain ⟨xs,rfl,hl,hx⟩:=top_kn ht hc (by decide) he hce hval h
  match xs,hl with
  | [a,b],_=>exact ⟨a,b,rfl,hx a (by simp),hx b (by simp)⟩
end
end Go.PK

namespace Go.PK
open Go Go.RowKit
theorem gK.one {p:Pat} (h:gK p):∀ l∈p.lv.tail,1≤l:=fun l hl=>by
  obtain ⟨j,hj,rfl⟩:=List.getElem_of_mem hl
  have hj':j+1 < p.lv.length:=by simp at hj; omega
  have:=(h.at (j:=j+1) (by omega) hj').1
  rw [← sg hj,yK]; exact this
theorem yL {p:Pat} {ns:List Int} (h:yJ p ns):(nf p ns).getD 0=numK p ns∧(nf p ns).isSome=true:=by unfold nf; rw [if_pos h]; exact ⟨rfl,rfl⟩
theorem yM {p:Pat} {ns:List Int} (h:¬yJ p ns):(nf p ns).getD 0=0∧(nf p ns).isSome=false:=by unfold nf; rw [if_neg h]; exact ⟨rfl,rfl⟩
end Go.PK

namespace Go.PK
open Go Go.RowKit
theorem ag.set {size n b c k:Nat} {cs xs:List Value} {v:Value} (h:ag size (some (b,cs,c)) n xs) (hk:k < n*size):ag size (some (b,cs.set k v,c)) n (xs.set k v):=by
  obtain ⟨h1,h2,h3,h4,h5⟩:=h
  exact ⟨by simpa using h1,h2,h3,by simpa using h4,by simp only at h5 ⊢; rw [List.take_set,h5]⟩
theorem gK.lv {p:Pat} (h:gK p):sf p.st.tail p.lv.tail:=by
  obtain ⟨s0,ls,ss,h1,h2,_,_,h5,_⟩:=h.split
  rw [h1,h2]; exact h5
end Go.PK

namespace Go.PK
open Go Go.RowKit
end Go.PK

namespace Go.PK
open Go Go.RowKit
structure Ent where
  fr:Int
  to:Int
  sk:Bool
  day:Int
deriving DecidableEq
def entC (x:Ent):List Value:=[.int .i64 x.fr,.int .i64 x.to,.bool x.sk,.int .i64 x.day]
def entsC (l:List Ent):List Value:=l.flatMap entC
def t6 (x:Ent):Prop:=aj x.fr∧aj x.to∧aj x.day
def tyEnt:Ty Ent where
  size:=4
  rd:=fun _ _ cs x=>cs=entC x∧t6 x
  len:=fun h=>by rw [h.1]; rfl
  keep:=fun h _=>h
theorem ents_rd {D:Nat→Prop} {w:World} {own:List (Nat×Obj)} {ro:List au} {e:TypeId} {R:ak} {es:List Ent} {n:Nat} (hr:ag 4 R n (entsC es)) (hn:n=es.length) (hi:∀ x∈es,t6 x)
    (hm:Mem w own ro) (hin:∀ p∈aA e R,p∈own) (hD:∀ p∈aA e R,D p.1):aa tyEnt D w (av R n) es:=by
  subst hn
  have h:cU tyEnt (fun _=>False) w R es:=⟨es.map entC,by simp,by rw [← List.flatMap_def]; exact hr,fun j h1 h2=>by rw [List.getElem_map]; exact ⟨rfl,hi _ (List.getElem_mem h2)⟩⟩
  exact h.rd hm hin (fun _ h=>h.elim) hD rfl
def atoiV (x:ByteArray):Int:=match Lib.atoiAll (bl x) with | .ok n=>n | _=>0
def numOKb (x:ByteArray):Bool:=match Lib.atoiAll (bl x) with | .ok n=>decide (0≤n) && decide (x.size≤7) && decide (ai n=x) | _=>false
def vv (s sep:ByteArray):List ByteArray:=Lib.splitB sep 0 (Lib.countB s sep) s
def w9:ByteArray:=⟨#[47]⟩
def jZ (s:ByteArray):List Int×Bool:=if (vv s w9).all numOKb then ((vv s w9).map atoiV,decide ((vv s w9).length≤4)) else ([],false)
def cutG (s sep:ByteArray):ByteArray×ByteArray×Bool:=(⟨(Lib.cut (bl s) (bl sep)).1.toArray⟩,⟨(Lib.cut (bl s) (bl sep)).2.1.toArray⟩,(Lib.cut (bl s) (bl sep)).2.2)
def pS (es:List Ent) (to:Int):Nat:=es.findIdx (fun e=>decide (to < e.fr))
def insE (es:List Ent) (x:Ent):List Ent:=es.take (pS es x.to)++x::es.drop (pS es x.to)
theorem insI_le (es:List Ent) (to:Int):pS es to≤es.length:=List.findIdx_le_length
def tkR (text:ByteArray):ByteArray:=⟨(Lib.trimPrefix (bl text) (bl ⟨#[120]⟩)).toArray⟩
def tkA (text:ByteArray):ByteArray:=(cutG (tkR text) ⟨#[45]⟩).1
def tkB (text:ByteArray):ByteArray:=if (cutG (tkR text) ⟨#[45]⟩).2.2 then (cutG (tkR text) ⟨#[45]⟩).2.1 else (cutG (tkR text) ⟨#[45]⟩).1
def tkS (text:ByteArray):Bool:=Lib.hasPrefix (bl text) (bl ⟨#[120]⟩)
theorem t7 (p:Pat) (ns:List Int):0≤(nf p ns).getD 0∧(nf p ns).getD 0 < 100000:=by
  by_cases h:yJ p ns
  · rw [(yL h).1]; exact h.2.2.2.2.2
  · rw [(yM h).1]; decide
end Go.PK

namespace Go.PK
open Go Go.RowKit
def serC (p:Pat) (r1 r2 R:ak) (n:Nat):List Value:=[.int .i64 p.first,.int .i64 p.days,av r1 p.lv.length,av r2 p.st.length,av R n]
structure SerOK (p:Pat) (es:List Ent) (r1 r2 R:ak):Prop where
  fst:aj p.first
  dys:aj p.days
  lvs:ag 1 r1 p.lv.length (p.lv.map (Value.int .i64))
  lin:∀ d∈p.lv,aj d
  sts:ag 1 r2 p.st.length (p.st.map (Value.int .i64))
  sin:∀ d∈p.st,aj d
  ent:ag 4 R es.length (entsC es)
  ein:∀ x∈es,t6 x
theorem SerOK.with {p:Pat} {es es':List Ent} {r1 r2 R R':ak} (h:SerOK p es r1 r2 R) (h1:ag 4 R' es'.length (entsC es')) (h2:∀ x∈es',t6 x):SerOK p es' r1 r2 R':=⟨h.fst,h.dys,h.lvs,h.lin,h.sts,h.sin,h1,h2⟩
end Go.PK

namespace Go.PK
open Go Go.RowKit
def lN (x:Ent):Prop:=0≤x.fr∧x.fr≤x.to∧x.to < 100000∧x.to - x.fr < 100∧lz x.day
theorem lN.in {x:Ent} (h:lN x):t6 x:=by
  obtain ⟨h1,h2,h3,h4,h5⟩:=h
  unfold lz at h5
  exact ⟨by unfold aj; omega,by unfold aj; omega,by unfold aj; omega⟩
structure SerRd (w:World) (b:Nat) (p:Pat) (es:List Ent) (v1 v2 v3:Value):Prop where
  cells:∀ j (hj:j < [Value.int .i64 p.first,Value.int .i64 p.days,v1,v2,v3].length),w.cell? ⟨b,j,none⟩=some [Value.int .i64 p.first,Value.int .i64 p.days,v1,v2,v3][j]
  lvs:aa iV (fun _=>True) w v1 p.lv
  sts:aa iV (fun _=>True) w v2 p.st
  fst:aj p.first
  dys:aj p.days
  ent:aa tyEnt (fun _=>True) w v3 es
theorem SerOK.rd {p:Pat} {es:List Ent} {r1 r2 R:ak} (h:SerOK p es r1 r2 R) {w:World} {own:List (Nat×Obj)} {ro:List au} {b:Nat} {e e1 e2:TypeId} (hm:Mem w own ro) (hb:(b,Obj.cells (serC p r1 r2 R es.length).toArray e (0,0))∈own)
    (h1:∀ q∈aA e1 r1,q∈own) (h2:∀ q∈aA e1 r2,q∈own) (h3:∀ q∈aA e2 R,q∈own):SerRd w b p es (av r1 p.lv.length) (av r2 p.st.length) (av R es.length) where
  cells:=fun j hj=>by
    have:=hm.cell_own hb j
    rw [this,List.getElem?_toArray]
    exact List.getElem?_eq_getElem (l:=serC p r1 r2 R es.length) hj
  lvs:=dr (e:=e1) h.lvs rfl h.lin hm h1 (fun _ _=>trivial)
  sts:=dr (e:=e1) h.sts rfl h.sin hm h2 (fun _ _=>trivial)
  fst:=h.fst
  dys:=h.dys
  ent:=ents_rd (e:=e2) h.ent rfl h.ein hm h3 (fun _ _=>trivial)
theorem SerRd.keep {w w':World} {b:Nat} {p:Pat} {es:List Ent} {v1 v2 v3:Value} (h:SerRd w b p es v1 v2 v3) (hl:Later w w'):SerRd w' b p es v1 v2 v3 :=
  ⟨fun j hj=>(hl.cell (p:=⟨b,j,none⟩) (em (h.cells j hj))).trans (h.cells j hj),h.lvs.keep (aU.later hl),h.sts.keep (aU.later hl),h.fst,h.dys,h.ent.keep (aU.later hl)⟩
end Go.PK

namespace Go.PK
open Go Go.RowKit
end Go.PK

namespace Go.PK
open Go Go.RowKit
end Go.PK

namespace Go.PK
open Go Go.RowKit
section
variable {P:Program} {n:Nat} {l:List (Nat×Value)} {own:List (Nat×Obj)} {ro:List au} {ty t t':TypeId} {x y:Operand}
end
end Go.PK

namespace Go.PK
open Go Go.RowKit
end Go.PK

namespace Go.PK
open Go Go.RowKit
end Go.PK

namespace Go.PK
open Go Go.RowKit
end Go.PK

namespace Go.PK
open Go Go.RowKit
end Go.PK

namespace Go.PK
open Go Go.RowKit
theorem mz {a b:ByteArray} (h:bl a=bl b):a=b:=by rw [← ft a,h,ft]
theorem ir (s:ByteArray) (i j:Nat):bl (s.extract i j)=((bl s).drop i).take (j - i):=by
  show (s.extract i j).data.toList=_
  rw [ByteArray.data_extract,Array.toList_extract,List.extract_eq_take_drop]; rfl
end Go.PK

namespace Go.PK
open Go Go.RowKit
section
variable (rd:ByteArray→Int×Int)
end
end Go.PK

namespace Go.PK
open Go Go.RowKit
def bA (n:Nat):List UInt8:=if h:n < 128 then [UInt8.ofNat n] else UInt8.ofNat (n%128+128)::bA (n / 128)
termination_by n
decreasing_by omega
theorem de {n:Nat} (h:n < 128):bA n=[UInt8.ofNat n]:=by rw [bA,dif_pos h]
theorem eY {n:Nat} (h:¬n < 128):bA n=UInt8.ofNat (n%128+128)::bA (n / 128):=by rw [bA,dif_neg h]
theorem t8:∀ (k n:Nat),n < 128 ^ (k+1)→(bA n).length≤k+1
  | 0,n,h=>by rw [de (by simpa using h)]; exact Nat.le_refl _
  | k+1,n,h=>by
    by_cases hn:n < 128
    · rw [de hn]; simp
    · rw [eY hn,List.length_cons]
      have:=t8 k (n / 128) (by rw [Nat.div_lt_iff_lt_mul (by decide),← Nat.pow_succ]; exact h)
      omega
theorem dH {n:Nat} (h:n < 18446744073709551616):(bA n).length≤10:=t8 9 n (Nat.lt_of_lt_of_le h (by decide))
theorem lO (n:Nat):1≤(bA n).length:=by
  by_cases hn:n < 128
  · rw [de hn]; exact Nat.le_refl _
  · rw [eY hn,List.length_cons]; omega
theorem or128 {c:Nat} (h:c < 128):orK .u8 (((UInt8.ofNat c).toNat:Nat):Int) 128=((UInt8.ofNat (c+128)).toNat:Nat):=by
  have key:∀ c:Fin 128,orK .u8 (((UInt8.ofNat c.val).toNat:Nat):Int) 128=((UInt8.ofNat (c.val+128)).toNat:Nat):=by decide +kernel
  exact key ⟨c,h⟩
def kh (n:Int):Nat:=if 0≤n then (2*n).toNat else (2*(-1 - n)+1).toNat
theorem mA {n:Int} (h:-9223372036854775808≤n∧n≤9223372036854775807):kh n < 18446744073709551616:=by unfold kh; split <;> omega
theorem xa (a:Int):(BitVec.ofInt 64 a ^^^ BitVec.ofInt 64 0).toNat=(BitVec.ofInt 64 a).toNat:=by simp
theorem bv_xor1 (a:Int):(BitVec.ofInt 64 a ^^^ BitVec.ofInt 64 18446744073709551615).toNat=18446744073709551615 - (BitVec.ofInt 64 a).toNat:=by
  rw [show BitVec.ofInt 64 18446744073709551615=BitVec.allOnes 64 by decide,BitVec.xor_allOnes,BitVec.toNat_not]
theorem xor_sgn {n:Int} (h:-9223372036854775808≤n∧n≤9223372036854775807):x6 .u64 (IntKind.u64.wrap (IntKind.u64.wrap n*2)) (IntKind.u64.wrap (n / 9223372036854775808))=(kh n:Nat):=by
  have w64:∀ z:Int,IntKind.u64.wrap z=z%18446744073709551616:=fun z=>by simp [IntKind.wrap,IntKind.bits,IntKind.signed]
  unfold x6
  rw [w64,w64,w64,w64]
  by_cases h0:0≤n
  · have e1:n / 9223372036854775808=0:=by omega
    rw [e1,show (0:Int)%18446744073709551616=0 by decide]
    show (((BitVec.ofInt 64 _ ^^^ BitVec.ofInt 64 0).toNat:Nat):Int)%_=_
    rw [xa,BitVec.toNat_ofInt]
    unfold kh
    rw [if_pos h0]
    have e2:n%18446744073709551616*2%18446744073709551616=2*n:=by omega
    rw [e2]
    have e3:(2*n%((2 ^ 64:Nat):Int)).toNat=(2*n).toNat:=by
      have:((2 ^ 64:Nat):Int)=18446744073709551616:=by decide
      rw [this]; congr 1; omega
    rw [e3]; omega
  · have e1:n / 9223372036854775808=-1:=by omega
    rw [e1,show (-1:Int)%18446744073709551616=18446744073709551615 by decide]
    show (((BitVec.ofInt 64 _ ^^^ BitVec.ofInt 64 18446744073709551615).toNat:Nat):Int)%_=_
    rw [bv_xor1,BitVec.toNat_ofInt]
    unfold kh
    rw [if_neg h0]
    have e2:n%18446744073709551616*2%18446744073709551616=18446744073709551616+2*n:=by omega
    rw [e2]
    have e3:((18446744073709551616+2*n)%((2 ^ 64:Nat):Int)).toNat=(18446744073709551616+2*n).toNat:=by
      have:((2 ^ 64:Nat):Int)=18446744073709551616:=by decide
      rw [this]; congr 1; omega
    rw [e3]; omega
def cB (l:List Int):List UInt8:=bA l.length++l.flatMap fun n=>bA (kh n)
def fp (l:List Int) (k:Nat):List UInt8:=bA l.length++(l.take k).flatMap fun n=>bA (kh n)
theorem jr (l:List Int):fp l 0=bA l.length:=by simp [fp]
theorem js {l:List Int} {k:Nat} (h:k < l.length):fp l (k+1)=fp l k++bA (kh l[k]):=by
  unfold fp
  rw [← List.take_append_getElem h,List.flatMap_append,List.append_assoc]; simp
theorem ki (l:List Int):fp l l.length=cB l:=by unfold fp cB; rw [List.take_length]
theorem mB {l:List Int} (hl:l.length < 18446744073709551616) (h:∀ n∈l,-9223372036854775808≤n∧n≤9223372036854775807):∀ k,k≤l.length→(fp l k).length≤10+10*k
  | 0,_=>by rw [jr]; exact dH hl
  | k+1,hk=>by
    have ih:=mB hl h k (by omega)
    rw [js hk,List.length_append]
    have:=dH (mA (h _ (List.getElem_mem hk)))
    omega
theorem cq {n:Int} (h:0≤n∧n < 18446744073709551616):IntKind.u64.wrap n=n:=by
  simp [IntKind.wrap,IntKind.bits,IntKind.signed]; omega
section
variable {P:Program} {n:Nat} {l:List (Nat×Value)} {own:List (Nat×Obj)} {ro:List au} {ty t t':TypeId} {x y:Operand} {k k':IntKind} {a b c:Int}
theorem fF {td:TypeDesc} (hs:P.underlying t=some td) (hd:P.underlying t'=some (.int k')) (hx:ev l x=some (.int k a)) (hc:k'.wrap a=c):cv P n l own ro (.convert t t' x) ty (.int k' c):=hc▸l7 hs hd hx
theorem oO (hx:ev l x=some (.int k a)) (hy:ev l y=some (.int k b)) (hc:k.wrap (a+b)=c):cv P n l own ro (.binOp .add t x y t') ty (.int k c):=hc▸v_add hx hy
theorem sh (hx:ev l x=some (.int k a)) (hy:ev l y=some (.int k b)) (hc:k.wrap (a*b)=c):cv P n l own ro (.binOp .mul t x y t') ty (.int k c):=hc▸v_mul hx hy
theorem vw (hx:ev l x=some (.int k a)) (hy:ev l y=some (.int k b)) (h0:b≠0) (hc:k.wrap (a.tdiv b)=c):cv P n l own ro (.binOp .quo t x y t') ty (.int k c):=hc▸v_quo hx hy h0
end
end Go.PK

namespace Go.PK
open Go Go.RowKit
def txTo (ns:List Int):Nat→ByteArray
  | 0=>⟨#[]⟩
  | k+1=>(if 0 < k then txTo ns k++w9 else txTo ns k)++ai (ns.getD k 0)
def txN (ns:List Int):ByteArray:=txTo ns ns.length
def isT (p:Pat) (sk:Bool) (k:Int):ByteArray:=if sk then ⟨#[120]⟩++txN (numsP p k) else txN (numsP p k)
end Go.PK

namespace Go.PK
open Go Go.RowKit
def tkE (p:Pat) (text:ByteArray) (day:Int):Option Ent×Int :=
  if (!(jZ (tkA text)).2 || !(jZ (tkB text)).2)=true then (none,11) else
  if lz day then
    match nf p (jZ (tkA text)).1,nf p (jZ (tkB text)).1 with
    | some i,some j=>if j < i∨100≤j - i then (none,32) else (some ⟨i,j,tkS text,day⟩,0)
    | _,_=>(none,32)
  else (none,1)
def m7 (es:List Ent) (x:Ent):Bool:=es.any fun e=>decide (x.fr≤e.to) && decide (e.fr≤x.to)
theorem tkE_ok {p:Pat} {text:ByteArray} {day:Int} {x:Ent} (h:(tkE p text day).1=some x):lN x∧(tkE p text day).2=0:=by
  unfold tkE at h ⊢
  split at h
  · cases h
  · rename_i h1
    rw [if_neg h1]
    split at h
    · rename_i h2
      rw [if_pos h2]
      cases h3:nf p (jZ (tkA text)).1 with
      | none=>rw [h3] at h; cases h
      | some i =>
        cases h4:nf p (jZ (tkB text)).1 with
        | none=>rw [h3,h4] at h; cases h
        | some j =>
          rw [h3,h4] at h
          dsimp only at h ⊢
          split at h
          · cases h
          · rename_i h5
            rw [if_neg h5]
            injection h with h
            have r1:=t7 p (jZ (tkA text)).1
            have r2:=t7 p (jZ (tkB text)).1
            rw [h3] at r1; rw [h4] at r2
            simp only [Option.getD_some] at r1 r2
            rw [← h]
            exact ⟨⟨r1.1,by dsimp only; omega,r2.2,by dsimp only; omega,h2⟩,rfl⟩
    · cases h
def srt (es:List Ent):Prop:=es.Pairwise (fun x y=>x.to < y.fr)∧∀ x∈es,lN x
theorem srt_nil:srt []:=⟨List.Pairwise.nil,fun x hx=>by cases hx⟩
theorem lN.le {x:Ent} (h:lN x):x.fr≤x.to:=h.2.1
theorem meets_no {es:List Ent} {x:Ent} (h:m7 es x=false):∀ e∈es,x.to < e.fr∨e.to < x.fr:=fun e he=>by
  unfold m7 at h
  rw [List.any_eq_false] at h
  have:=h e he
  simp only [Bool.and_eq_true,decide_eq_true_eq] at this
  omega
theorem yP {es:List Ent} {x:Ent} (hs:srt es) (hx:lN x) (hm:m7 es x=false):∃ A B,es=A++B∧insE es x=A++x::B∧(∀ e∈A,e.to < x.fr)∧∀ e∈B,x.to < e.fr:=by
  refine ⟨es.take (pS es x.to),es.drop (pS es x.to),(List.take_append_drop _ _).symm,rfl,fun e he=>?_,fun e he=>?_⟩
  · have h1:=meets_no hm e (List.mem_of_mem_take he)
    rcases h1 with h1 | h1
    · obtain ⟨j,hj,rfl⟩:=List.getElem_of_mem he
      rw [List.length_take] at hj
      rw [List.getElem_take] at h1
      have:=List.not_of_lt_findIdx (xs:=es) (p:=fun e:Ent=>decide (x.to < e.fr)) (i:=j) (show j < List.findIdx _ es by unfold pS at hj; omega)
      rw [decide_eq_true h1] at this; cases this
    · exact h1
  · have hi:=insI_le es x.to
    obtain ⟨j,hj,rfl⟩:=List.getElem_of_mem he
    rw [List.length_drop] at hj
    rw [List.getElem_drop]
    have hlt:pS es x.to < es.length:=by omega
    have h0:x.to < es[pS es x.to].fr:=by
      have:=List.findIdx_getElem (xs:=es) (p:=fun e:Ent=>decide (x.to < e.fr)) (w:=hlt)
      exact of_decide_eq_true this
    by_cases hj0:j=0
    · subst hj0; exact h0
    · have h1:=List.pairwise_iff_getElem.1 hs.1 (pS es x.to) (pS es x.to+j) hlt (by omega) (by omega)
      have h2:=(hs.2 _ (List.getElem_mem hlt)).le
      omega
theorem ins_srt {es:List Ent} {x:Ent} (hs:srt es) (hx:lN x) (hm:m7 es x=false):srt (insE es x)∧(insE es x).Perm (x::es):=by
  obtain ⟨A,B,h1,h2,h3,h4⟩:=yP hs hx hm
  rw [h2]
  have hp:(A++x::B).Perm (x::es):=by rw [h1]; exact List.perm_middle
  refine ⟨⟨?_,fun e he=>?_⟩,hp⟩
  · have hs1:=hs.1
    rw [h1,List.pairwise_append] at hs1
    rw [List.pairwise_append]
    refine ⟨hs1.1,List.pairwise_cons.2 ⟨h4,hs1.2.1⟩,fun a ha b hb=>?_⟩
    rcases List.mem_cons.1 hb with rfl | hb
    · exact h3 a ha
    · exact hs1.2.2 a ha b hb
  · rcases List.mem_cons.1 (hp.subset he) with rfl | he
    · exact hx
    · exact hs.2 e he
theorem srt_eq:∀ {a b:List Ent},srt a→srt b→a.Perm b→a=b
  | [],b,_,_,h=>(List.nil_perm.1 h).symm
  | x::a,[],_,_,h=>by simpa using h.length_eq
  | x::a,y::b,ha,hb,h=>by
    have hxy:x=y:=by
      rcases List.mem_cons.1 (h.subset (List.mem_cons_self ..)) with h1 | h1
      · exact h1
      · rcases List.mem_cons.1 (h.symm.subset (List.mem_cons_self ..)) with h2 | h2
        · exact h2.symm
        · have h3:=(List.pairwise_cons.1 hb.1).1 x h1
          have h4:=(List.pairwise_cons.1 ha.1).1 y h2
          have h5:=(ha.2 x (List.mem_cons_self ..)).le
          have h6:=(hb.2 y (List.mem_cons_self ..)).le
          omega
    subst hxy
    rw [srt_eq ⟨(List.pairwise_cons.1 ha.1).2,fun e he=>ha.2 e (List.mem_cons_of_mem _ he)⟩ ⟨(List.pairwise_cons.1 hb.1).2,fun e he=>hb.2 e (List.mem_cons_of_mem _ he)⟩ h.cons_inv]
structure ActD where
  fr:Int
  to:Int
  day:Int
  sk:Bool
  two:Bool
  raw:ByteArray
def callT (p:Pat) (a:ActD):ByteArray:=if a.raw≠⟨#[]⟩ then a.raw else
  if a.two then isT p a.sk (a.fr%200)++⟨#[45]⟩++txN (numsP p (a.to%320)) else isT p a.sk (a.fr%200)
def callD (p:Pat) (a:ActD):Int:=IntKind.i64.wrap (p.first+a.day)
def vy (p:Pat) (a:ActD):Option Ent:=(tkE p (callT p a) (callD p a)).1
structure Of (p:Pat) (es:List Ent) (gs:List ActD):Prop where
  srt:srt es
  all:∀ a∈gs,(vy p a).isSome=true
  perm:es.Perm (gs.filterMap (vy p))
theorem Of.nil (p:Pat):Of p [] []:=⟨srt_nil,(fun a ha=>by cases ha),List.Perm.refl _⟩
theorem Of.snoc {p:Pat} {es:List Ent} {gs:List ActD} (h:Of p es gs) {a:ActD} {x:Ent} (hx:vy p a=some x) (hm:m7 es x=false):Of p (insE es x) (gs++[a]):=by
  obtain ⟨h1,h2⟩:=ins_srt h.srt (tkE_ok hx).1 hm
  refine ⟨h1,fun b hb=>?_,?_⟩
  · rcases List.mem_append.1 hb with hb | hb
    · exact h.all b hb
    · rw [List.mem_singleton.1 hb,hx]; rfl
  · rw [List.filterMap_append]
    have:List.filterMap (vy p) [a]=[x]:=by rw [List.filterMap_cons,hx]; rfl
    rw [this]
    exact h2.trans ((h.perm.cons x).trans (List.perm_append_comm (l₁:=[x])))
theorem si {es:List Ent} (h:srt es):es.Pairwise fun x y=>x.to < y.fr∨y.to < x.fr:=h.1.imp fun h=>.inl h
theorem Of.next {p:Pat} {es es2:List Ent} {gs g2:List ActD} (h:Of p es gs) (hp:g2.Perm gs) {k:Nat} (hk:k < g2.length) (h2:Of p es2 (g2.take k)):∃ x,vy p g2[k]=some x∧m7 es2 x=false∧lN x:=by
  have hs:(vy p g2[k]).isSome=true:=h.all _ (hp.subset (List.getElem_mem hk))
  obtain ⟨x,hx⟩:=Option.isSome_iff_exists.1 hs
  refine ⟨x,hx,?_,(tkE_ok hx).1⟩
  have hap:(g2.filterMap (vy p)).Pairwise fun x y=>x.to < y.fr∨y.to < x.fr :=
    ((si h.srt).perm h.perm (fun h=>h.symm)).perm ((hp.symm).filterMap _) (fun h=>h.symm)
  have e:g2=g2.take k++g2[k]::g2.drop (k+1):=by rw [List.getElem_cons_drop,List.take_append_drop]
  rw [e,List.filterMap_append,List.filterMap_cons,hx,List.pairwise_append] at hap
  cases hm:m7 es2 x with
  | false=>rfl
  | true =>
    unfold m7 at hm
    rw [List.any_eq_true] at hm
    obtain ⟨y,hy,hc⟩:=hm
    rw [Bool.and_eq_true,decide_eq_true_eq,decide_eq_true_eq] at hc
    have:=hap.2.2 y (h2.perm.subset hy) x (List.mem_cons_self ..)
    omega
theorem Of.same {p:Pat} {es es2:List Ent} {gs g2:List ActD} (h:Of p es gs) (hp:g2.Perm gs) (h2:Of p es2 g2):es2=es :=
  srt_eq h2.srt h.srt (h2.perm.trans ((hp.filterMap _).trans h.perm.symm))
end Go.PK
