/- Of the proofs of YtifekogdhjabaaaGreatDoor: PkReg PkEng PkOps PkOps2 PkOps3 PkCtl PkData PkLib PkApp PkMap PkFill PkSchema PkRead PkStd PkEx PkMore PkRows PkMade PkDeep PkDeep2 PkShell PkShell2 PkTy PkOps4 PkCal PkCal2 PkCal3 PkOps5 PkInts PkBytes PkBld PkEdi PkOps6 PkTurnG PkZ PkBld2, put together. -/
import Derived.StillTail
import Derived.Deep.Quiet
import Derived.Deep.Draws
import Derived.Below
import Derived.WalkKit
import Derived.WalkSpells
import Derived.WalkLawsBesides
import Derived.Maps.AppendAt
import Derived.Maps.Keyed
import Derived.Scope
import Derived.IntWalk
import Derived.Laws.IdiomStrings
import Derived.Laws.OwnMore
import Derived.ProofKit
import Derived.OpenShut
import Derived.ReadAgain
import Derived.Deep.Slices
import Derived.Lib.ConvBytes
import Derived.Laws.AppendOwn
import Derived.Lib.FrozenHead
import Derived.Lib.OthersKept
import Derived.Laws.Externs
import Derived.Lib.Builder
set_option linter.unusedVariables false
set_option linter.unusedSimpArgs false
set_option maxRecDepth 100000
set_option maxHeartbeats 4000000

namespace Go.PK
open Go Go.RowKit
def Later (w w':World):Prop:=Below w.heap.size w w'
theorem Later.refl (w:World):Later w w:=Below.refl _ _
theorem Later.trans {a b c:World} (h:Later a b) (k:Later b c):Later a c:=Below.trans h (Below.mono k h.size)
theorem Later.drew (w:World):Later w w.drew:=(Below.refl _ _).drew
theorem Later.drewN (w:World) (n:Nat):Later w (w.drewN n):=⟨rfl,rfl,rfl,Nat.le_refl _,fun _ _=>rfl⟩
theorem Later.alloc (w:World) (o:Obj):Later w (w.alloc o):=(Below.refl _ _).alloc (Nat.le_refl _) o
section
variable {P:Program} {ops:Array Oper} {md:Region.Mode}
def iY (P:Program) (w:World) (v:Value):Result Next→Prop
  | .ok (.value u) w'=>w'=w∧u=v
  | .ok .skip w'=>w'=w∧v=undef
  | .ok (.enter f args) w'=>w'=w∧Calls P f args w (fun e w''=>e=.returned v∧Later w w'')
  | _=>False
def fU (P:Program) (o:Oper) (a:Act) (w:World) (v:Value):Prop:=iY P w v ((execOp a.eval o).run P w)
def flt (P:Program) (o:Oper) (a:Act) (w:World) (next:Act→Prop):Prop:=∃ v,(∀ w',Later w w'→fU P o a w' v)∧next (a.put o.dst v)
def grw (P:Program) (o:Oper) (a:Act) (w:World) (next:Act→World→Prop):Prop :=
  ∀ w',Later w w'→o.wp P a w' (fun a'' w''=>Later w' w''∧next a'' w'') (fun _ _ _=>False)
def ky (P:Program) (ops:Array Oper) (Q:Act→World→Prop):List (Bool×Nat)→Act→World→Prop
  | [],a,w=>Q a w
  | (b,i)::rest,a,w =>
    match ops[i]? with
    | none=>False
    | some o =>
      if Region.wanted o (yielded ops a.tmps) then
        (match b with
         | true=>flt P o a w (fun a'=>ky P ops Q rest a' w)
         | false=>grw P o a w (ky P ops Q rest))
      else ky P ops Q rest (a.put o.dst undef) w
def canOp (P:Program) (ops:Array Oper) (i:Nat) (K:Act→World→Prop) (a:Act) (w:World):Prop :=
  ∀ w',Later w w'→wpOp P ops (fun _ _ _=>False) i (fun a'' w''=>Later w' w''∧K a'' w'') a w'
theorem uN {i:Nat} {a:Act} {w:World} {K K':Act→World→Prop} (h:∀ a w,K a w→K' a w) (hh:canOp P ops i K a w):canOp P ops i K' a w :=
  fun w' hw=>wpOp_mono (fun _ _ hk=>⟨hk.1,h _ _ hk.2⟩) (hh w' hw)
theorem sR {i:Nat} {a:Act} {w w1:World} {K:Act→World→Prop} (hw:Later w w1) (hh:canOp P ops i K a w):canOp P ops i K a w1 :=
  fun w' hw'=>hh w' (hw.trans hw')
def ii (P:Program) (md:Region.Mode) (ops:Array Oper) (n:Nat) (L:Array Bool→Act→World→Prop):Nat→Array Bool→Act→World→Prop
  | 0,listed,a,w=>L listed a w
  | f+1,listed,a,w =>
    Region.ready md ops listed≠[]∧∀ i∈Region.ready md ops listed,i < n∧canOp P ops i (ii P md ops n L f (listed.setIfInBounds i true)) a w
def gX (L:Array Bool→Act→World→Prop):Prop:=∀ listed a w w',Later w w'→L listed a w→L listed a w'
theorem eJ {n:Nat} {L:Array Bool→Act→World→Prop} (hL:gX L):∀ (f:Nat) (listed:Array Bool) (a:Act) (w w':World),Later w w' →
    ii P md ops n L f listed a w→ii P md ops n L f listed a w'
  | 0,_,_,_,_,h,hh=>hL _ _ _ _ h hh
  | _+1,_,_,_,_,h,hh=>⟨hh.1,fun i hi=>⟨(hh.2 i hi).1,sR h (hh.2 i hi).2⟩⟩
theorem iZ {n g:Nat} {L:Array Bool→Act→World→Prop} {Q':Exit→Act→World→Prop} (hL:∀ listed a w,L listed a w→wpAny P md ops Q' g listed a w) :
    ∀ (f:Nat) (listed:Array Bool) (a:Act) (w:World),ii P md ops n L f listed a w→wpAny P md ops Q' (f+g) listed a w
  | 0,listed,a,w,h=>by rw [Nat.zero_add]; exact hL _ _ _ h
  | f+1,listed,a,w,h=>by
    rw [show f+1+g=(f+g)+1 by omega]
    refine ⟨fun h0=>absurd h0 h.1,fun i hi=>?_⟩
    have h1:=(h.2 i hi).2 w (Later.refl w)
    have h2:wpOp P ops (fun _ _ _=>False) i (wpAny P md ops Q' (f+g) (listed.setIfInBounds i true)) a w :=
      wpOp_mono (fun a' w' h'=>iZ hL f _ a' w' h'.2) h1
    -- the exits other than the normal one do not come up
    unfold wpOp at h2 ⊢
    split
    · rename_i ho; simp only [ho] at h2; exact h2
    · rename_i o ho
      simp only [ho] at h2
      split
      · rename_i hw
        simp only [hw,if_true] at h2
        rcases h2 with h2 | ⟨_,_,_,h2⟩
        · refine .inl ?_
          unfold Oper.wp at h2 ⊢
          generalize (execOp a.eval o).run P w=r at *
          cases r with
          | ok x w' =>
            cases x <;> simp only [Oper.upon] at h2 ⊢ <;> first
              | exact h2
              | (refine Calls.mono h2 fun e w'' he=>?_
                 cases e with
                 | returned u=>exact he
                 | panicked c=>exact he.elim
                 | outgrown=>obtain ⟨_,_,hf⟩:=he; exact hf.elim)
          | halt x w'=>cases x <;> simp only [Oper.upon] at h2 ⊢
        · exact h2.elim
      · rename_i hw
        simp only [hw] at h2
        exact h2
def cX (P:Program) (ops:Array Oper) (o:Oper) (v:Value) (a:Act) (w:World):Prop :=
  (Region.wanted o (yielded ops a.tmps)=true∧∀ w',Later w w'→fU P o a w' v)∨(Region.wanted o (yielded ops a.tmps)=false∧v=undef)
theorem cX.later {o:Oper} {v:Value} {a:Act} {w w':World} (hw:Later w w') (h:cX P ops o v a w):cX P ops o v a w' :=
  h.imp (fun h=>⟨h.1,fun w1 h1=>h.2 w1 (hw.trans h1)⟩) id
theorem cX.of_same {o:Oper} {v:Value} {a a':Act} {w:World} (hy:cX P ops o v a w) (he:execOp a'.eval o=execOp a.eval o)
    (hw:Region.wanted o (yielded ops a'.tmps)=Region.wanted o (yielded ops a.tmps)):cX P ops o v a' w:=by
  unfold cX fU at *
  rw [he,hw]
  exact hy
theorem cX.canOp {i:Nat} {o:Oper} {v:Value} {a:Act} {w:World} (hi:ops[i]?=some o) (hy:cX P ops o v a w) {K:Act→World→Prop}
    (h:∀ w',Later w w'→K (a.put o.dst v) w'):canOp P ops i K a w:=by
  intro w' hw'
  unfold Go.wpOp
  simp only [hi]
  rcases hy with ⟨hw,hv⟩ | ⟨hw,rfl⟩
  · rw [if_pos hw]
    refine .inl ?_
    have h3:=hv w' hw'
    unfold fU at h3
    unfold Oper.wp
    generalize (execOp a.eval o).run P w'=r at *
    cases r with
    | ok n w1 =>
      cases n <;> simp only [iY] at h3 <;> simp only [Oper.upon]
      case value u=>obtain ⟨rfl,rfl⟩:=h3; exact ⟨Later.refl _,h _ hw'⟩
      case skip=>obtain ⟨rfl,rfl⟩:=h3; exact ⟨Later.refl _,h _ hw'⟩
      case enter f args =>
        obtain ⟨rfl,hc⟩:=h3
        exact hc.mono fun e w2 ⟨he,hl⟩=>by subst he; exact ⟨hl,h _ (hw'.trans hl)⟩
    | halt x w1=>simp only [iY] at h3
  · rw [if_neg (by rw [hw]; exact Bool.false_ne_true)]
    exact ⟨Later.refl _,h _ hw'⟩
theorem x3 {j:Nat} {oi oj:Oper} {v:Value} (hj:ops[j]?=some oj) (hap:oi.apart ops oj=true)
    (hsi:∀ cs b,oi.op≠.select cs b) (hsj:∀ cs b,oj.op≠.select cs b) {K:Act→World→Prop} {a:Act} {w:World}
    (hy:cX P ops oi v a w) (h:canOp P ops j K (a.put oi.dst v) w) :
    canOp P ops j (fun a' w'=>cX P ops oi v a' w'∧K (a'.put oi.dst v) w') a w:=by
  obtain ⟨h1,h2,h3⟩:=Oper.apart_spec hap
  intro w' hw'
  have hy':=hy.later hw'
  have keep:∀ (a:Act) (w:World),cX P ops oi v a w→∀ u,cX P ops oi v (a.put oj.dst u) w:=fun a w hy u =>
    hy.of_same (execOp_put oi hsi a oj.dst u h3) (wanted_put oi a oj.dst u h3)
  have keepD:∀ d,cX P ops oi v { a with defers:=d::a.defers } w':=fun d=>hy'.of_same rfl rfl
  have h:=h w' hw'
  unfold Go.wpOp at *
  simp only [hj] at *
  rw [wanted_put oj a oi.dst v h1] at h
  split
  · rename_i hw
    simp only [hw,if_true] at h
    rcases h with h | ⟨hasks,_,_,hlets⟩
    case inr=>exact hlets.elim
    refine .inl ?_
    unfold Oper.wp at *
    rw [execOp_put oj hsj a oi.dst v h1] at h
    generalize (execOp a.eval oj).run P w'=r at *
    cases r with
    | ok n w1 =>
      cases n <;> simp only [Oper.upon] at h ⊢
      case value u=>exact ⟨h.1,(keep a _ hy' u).later h.1,by rw [← Act.put_comm a v u h2]; exact h.2⟩
      case skip=>exact ⟨h.1,(keep a _ hy' _).later h.1,by rw [← Act.put_comm a v undef h2]; exact h.2⟩
      case defer d =>
        refine ⟨h.1,(keep _ _ (keepD d) _).later h.1,?_⟩
        rw [← Act.put_comm _ v undef h2,← Act.put_defers]
        exact h.2
      case enter f args =>
        -- the callee's own start: the world w1 may differ from w'
        refine Calls.mono h fun e w2 he=>?_
        cases e with
        | returned u=>exact ⟨he.1,(keep a _ hy' u).later he.1,by rw [← Act.put_comm a v u h2]; exact he.2⟩
        | panicked c=>exact he
        | outgrown=>exact he
      case row row args=>exact Rows.mono h fun u w2 he=>⟨he.1,(keep a _ hy' u).later he.1,by rw [← Act.put_comm a v u h2]; exact he.2⟩
    | halt x w1 =>
      cases x <;> simp only [Oper.upon] at h ⊢
  · rename_i hw
    simp only [hw] at h
    exact ⟨h.1,(keep a _ hy' _).later h.1,by rw [← Act.put_comm a v undef h2]; exact h.2⟩
theorem lk {n i:Nat} {oi:Oper} {v:Value} {L:Array Bool→Act→World→Prop} (hL:gX L) (hi:ops[i]?=some oi) (hsel:∀ (j:Nat) (o:Oper) cs b,ops[j]?=some o→o.op≠.select cs b)
    (hnt:∀ listed,HeadInv md ops n listed→listed.getD i true=false→∀ j∈Region.ready md ops listed,j < n)
    (hdone:∀ listed a w,L listed a w→∀ j∈Region.ready md ops listed,n≤j) (hin:i < n) :
    ∀ (f:Nat) (listed:Array Bool) (a:Act) (w:World),HeadInv md ops n listed →
      (∀ j oj,ops[j]?=some oj→j≠i→listed.getD j true=false→(∀ e∈oj.after,Region.binds md e=true→e.on≠i)→oi.apart ops oj=true) →
      i∈Region.ready md ops listed→cX P ops oi v a w →
      ii P md ops n L f (listed.setIfInBounds i true) (a.put oi.dst v) w→ii P md ops n L (f+1) listed a w:=by
  intro f
  induction f with
  | zero =>
    intro listed a w inv _ hr hy H
    have hun:=(mem_ready.1 hr).1
    refine ⟨fun h=>(by rw [h] at hr; cases hr),fun j hj=>?_⟩
    have hjn:=hnt listed inv hun j hj
    refine ⟨hjn,?_⟩
    by_cases hji:j=i
    · subst hji; exact hy.canOp hi fun w' hw'=>hL _ _ _ _ hw' H
    · have:=hdone _ _ _ H j (ready_mono hj hji)
      omega
  | succ f ih =>
    intro listed a w inv hfree hr hy H
    have hun:=(mem_ready.1 hr).1
    refine ⟨fun h=>(by rw [h] at hr; cases hr),fun j hj=>?_⟩
    have hjn:=hnt listed inv hun j hj
    refine ⟨hjn,?_⟩
    by_cases hji:j=i
    · subst hji; exact hy.canOp hi fun w' hw'=>eJ hL _ _ _ _ _ hw' H
    · have h1:=(H.2 j (ready_mono hj hji)).2
      obtain ⟨hjun,oj,hoj,hall⟩:=mem_ready.1 hj
      have hnot:∀ e∈oj.after,Region.binds md e=true→e.on≠i:=fun e he hb heq=>by
        have h1:=hall e he hb
        rw [heq,getD_both hun] at h1
        cases h1
      have h2:=x3 hoj (hfree j oj hoj hji hjun hnot) (fun cs b=>hsel i oi cs b hi) (fun cs b=>hsel j oj cs b hoj) hy h1
      have hfree':∀ k ok,ops[k]?=some ok→k≠i→(listed.setIfInBounds j true).getD k true=false →
          (∀ e∈ok.after,Region.binds md e=true→e.on≠i)→oi.apart ops ok=true:=fun k ok hk hki hun hno=>by
        refine hfree k ok hk hki ?_ hno
        by_cases hjk:j=k
        · subst hjk; exact hjun
        · rw [getD_set_ne true hjk] at hun; exact hun
      refine uN (fun a' w' h3=>ih (listed.setIfInBounds j true) a' w' (inv.set hj hjn) hfree' (ready_mono hr (Ne.symm hji)) h3.1 ?_) h2
      rw [Array.setIfInBounds_comm _ _ hji]
      exact h3.2
def nE (md:Region.Mode) (ops:Array Oper) (n:Nat):List (Bool×Nat)→Array Bool→Bool
  | [],listed=>Region.seqB md ops (ops.size - n) n listed
  | (true,i)::rest,listed=>decide (i < n) && (Region.ready md ops listed).contains i && Region.free md ops listed i && nE md ops n rest (listed.setIfInBounds i true)
  | (false,i)::rest,listed=>decide (i < n) && decide (Region.ready md ops listed=[i]) && nE md ops n rest (listed.setIfInBounds i true)
def canB (md:Region.Mode) (ops:Array Oper) (n:Nat) (plan:List (Bool×Nat)):Bool :=
  Region.noSelect ops && (decide (n=ops.size) || (decide (n < ops.size) && Region.sinkB md ops n && Region.chainB md ops n)) && decide (plan.length=n) && nE md ops n plan (Array.replicate ops.size false)
theorem nF {listed:Array Bool}:∀ j∈Region.ready md ops listed,j < ops.size:=fun j hj=>by
  obtain ⟨_,o,ho,_⟩:=mem_ready.1 hj
  exact (Array.getElem?_eq_some_iff.1 ho).1
theorem gY {n:Nat} {Q:Act→World→Prop} (hQ:∀ a w w',Later w w'→Q a w→Q a w') (hsel:Region.noSelect ops=true)
    (hnt:∀ i,i < n→∀ listed,HeadInv md ops n listed→listed.getD i true=false→∀ j∈Region.ready md ops listed,j < n) :
    ∀ (plan:List (Bool×Nat)) (listed:Array Bool) (a:Act) (w:World),HeadInv md ops n listed→nE md ops n plan listed=true→ky P ops Q plan a w →
      ii P md ops n (fun listed' a' w'=>Region.seqB md ops (ops.size - n) n listed'=true∧Q a' w') plan.length listed a w
  | [],listed,a,w,_,hB,h=>⟨by simpa [nE] using hB,h⟩
  | (true,i)::rest,listed,a,w,inv,hB,h=>by
    simp only [nE,Bool.and_eq_true,decide_eq_true_eq] at hB
    obtain ⟨⟨⟨hin,hr⟩,hf⟩,hB'⟩:=hB
    have hr':i∈Region.ready md ops listed:=by simpa using hr
    unfold ky at h
    cases ho:ops[i]? with
    | none=>simp only [ho] at h
    | some o =>
      simp only [ho] at h
      obtain ⟨v,hy,hK⟩:∃ v,cX P ops o v a w∧ky P ops Q rest (a.put o.dst v) w:=by
        by_cases hw:Region.wanted o (yielded ops a.tmps)=true
        · rw [if_pos hw] at h
          obtain ⟨v,h1,h2⟩:=h
          exact ⟨v,.inl ⟨hw,h1⟩,h2⟩
        · rw [if_neg hw] at h
          exact ⟨undef,.inr ⟨by simpa using hw,rfl⟩,h⟩
      exact lk (fun _ _ _ _ hw hq=>⟨hq.1,hQ _ _ _ hw hq.2⟩) ho (Region.noSelect_spec hsel) (hnt i hin) (fun _ _ _ hL=>seqB_ready hL.1) hin rest.length listed a w inv (Region.free_spec ho hf) hr' hy
        (gY hQ hsel hnt rest _ _ _ (inv.set hr' hin) hB' hK)
  | (false,i)::rest,listed,a,w,inv,hB,h=>by
    simp only [nE,Bool.and_eq_true,decide_eq_true_eq] at hB
    obtain ⟨⟨hin,hr⟩,hB'⟩:=hB
    have hr':i∈Region.ready md ops listed:=by rw [hr]; simp
    unfold ky at h
    cases ho:ops[i]? with
    | none=>simp only [ho] at h
    | some o =>
      simp only [ho] at h
      refine ⟨by rw [hr]; simp,fun j hj=>?_⟩
      rw [hr] at hj
      have hji:j=i:=by simpa using hj
      subst hji
      refine ⟨hin,fun w' hw'=>?_⟩
      unfold wpOp
      simp only [ho]
      by_cases hw:Region.wanted o (yielded ops a.tmps)=true
      · rw [if_pos hw] at h ⊢
        exact .inl (Oper.wp_mono (fun a' w2 hk=>⟨hk.1,gY hQ hsel hnt rest _ _ _ (inv.set hr' hin) hB' hk.2⟩) (h w' hw'))
      · rw [if_neg hw] at h ⊢
        exact ⟨Later.refl _,eJ (fun _ _ _ _ hw hq=>⟨hq.1,hQ _ _ _ hw hq.2⟩) _ _ _ _ _ hw' (gY hQ hsel hnt rest _ _ _ (inv.set hr' hin) hB' h)⟩
theorem pD {id:Nat} {Q:Exit→Act→World→Prop} {a:Act} {w:World} {l:List Oper} (n:Nat) (plan:List (Bool×Nat)) (hm:P.follows .mixedOrders=true) (hB:canB .any l.toArray n plan=true)
    (h:ky P l.toArray (fun a' w'=>∀ w'',Later w' w''→wpList P l.toArray Q (l.drop n) a' w'') plan a w):(Code.region id l.toArray true).wp P Q a w:=by
  simp only [canB,Bool.and_eq_true,decide_eq_true_eq] at hB
  obtain ⟨⟨⟨hsel,hn⟩,hlen⟩,hpl⟩:=hB
  have hnle:n≤l.toArray.size:=by
    rcases Bool.or_eq_true _ _▸hn with hn | hn
    · simp only [decide_eq_true_eq] at hn; omega
    · simp only [Bool.and_eq_true,decide_eq_true_eq] at hn; omega
  have hnt:∀ i,i < n→∀ listed,HeadInv .any l.toArray n listed→listed.getD i true=false→∀ j∈Region.ready .any l.toArray listed,j < n:=by
    intro i hin listed inv hun j hj
    rcases Bool.or_eq_true _ _▸hn with hn | hn
    · simp only [decide_eq_true_eq] at hn
      have:=nF j hj
      omega
    · simp only [Bool.and_eq_true,decide_eq_true_eq] at hn
      obtain ⟨⟨hn,hs⟩,hc⟩:=hn
      rcases Nat.lt_or_ge j n with h | h
      · exact h
      · exact absurd hj (tail_waits hs hc hn inv _ i rfl hin hun j h)
  have inv0:HeadInv .any l.toArray n (Array.replicate l.toArray.size false) :=
    ⟨by simp,fun j oj _ hl=>(by rw [getD_replicate_false] at hl; cases hl),fun t _ ht=>getD_in (by simpa using ht) (getD_replicate_false _ _)⟩
  have H:=gY (P:=P) (md:=.any) (Q:=fun a' w'=>∀ w'',Later w' w''→wpList P l.toArray Q (l.drop n) a' w'') (fun a w w' hw hq w'' hw''=>hq w'' (hw.trans hw'')) hsel hnt plan _ a w inv0 hpl h
  refine wp_region_any hm ?_
  have hdl:(l.drop n).length=l.toArray.size - n:=by simp
  have:=iZ (Q':=Q) (g:=l.toArray.size - n) (fun listed a' w' hL=>by
    have:=wpAny_of_seq (md:=.any) (Q':=Q) (l.drop n) n listed a' w' (fun j=>by simp [List.getElem?_drop]) (by rw [hdl]; exact hL.1) (hL.2 w' (Later.refl _))
    rwa [hdl] at this) _ _ _ _ (eJ (fun _ _ _ _ hw hq=>⟨hq.1,fun w2 h2=>hq.2 w2 (hw.trans h2)⟩) _ _ _ _ _ (Later.drew w) H)
  rw [hlen,show n+(l.toArray.size - n)=l.toArray.size by omega] at this
  exact this
end
end Go.PK

namespace Go.PK
open Go Go.RowKit
def ev (l:List (Nat×Value)):Operand→Option Value
  | .tmp t=>l.lookup t
  | .const v=>some v
  | .global g=>some (.pointer (some ⟨g,0,none⟩))
  | .func f=>some (.func (.func f) #[] #[])
def ll (l:List (Nat×Value)):List Operand→Option (List Value)
  | []=>some []
  | x::xs=>match ev l x,ll l xs with
    | some v,some vs=>some (v::vs)
    | _,_=>none
structure FH (n:Nat) (l:List (Nat×Value)) (a:Act):Prop where
  sz:a.tmps.size=n
  df:a.defers=[]
  at_:∀ s v,l.lookup s=some v→a.tmps[s]?=some v
theorem FH.eval {n:Nat} {l:List (Nat×Value)} {a:Act} (h:FH n l a) {x:Operand} {v:Value} (hx:ev l x=some v):a.eval x=v:=by
  cases x with
  | tmp t=>simp [Act.eval,h.at_ t v hx]
  | const u=>simpa [ev,Act.eval] using hx
  | global g=>simpa [ev,Act.eval] using hx
  | func f=>simpa [ev,Act.eval] using hx
theorem FH.evals {n:Nat} {l:List (Nat×Value)} {a:Act} (h:FH n l a):∀ {xs:List Operand} {vs:List Value},ll l xs=some vs→xs.map a.eval=vs
  | [],vs,hx=>by simp [ll] at hx; simp [hx]
  | x::xs,vs,hx=>by
    simp only [ll] at hx
    split at hx
    · rename_i v us hv hus
      cases hx
      simp [h.eval hv,h.evals hus]
    · cases hx
theorem FH.put {n d:Nat} {l:List (Nat×Value)} {a:Act} (h:FH n l a) (v:Value) (hd:d < n):FH n ((d,v)::l) (a.put (some d) v) where
  sz:=by simp [Act.put,h.sz]
  df:=h.df
  at_:=fun s u hu=>by
    simp only [List.lookup_cons] at hu
    by_cases hs:s=d
    · subst hs
      simp at hu
      subst hu
      simp [Act.put,h.sz,hd]
    · have:(s == d)=false:=by simpa using hs
      simp only [this] at hu
      have hne:d≠s:=fun e=>hs e.symm
      simp only [Act.put]
      rw [Array.getElem?_setIfInBounds_ne hne]
      exact h.at_ s u hu
def i7 (l' l:List (Nat×Value)):Prop:=∀ s v,l'.lookup s=some v→l.lookup s=some v
theorem i7.nil {l:List (Nat×Value)}:i7 [] l:=fun s v h=>by simp at h
theorem i7.cons {l l':List (Nat×Value)} {d:Nat} {v:Value} (h:l.lookup d=some v) (k:i7 l' l):i7 ((d,v)::l') l:=fun s u hu=>by
  simp only [List.lookup_cons] at hu
  by_cases hs:s=d
  · subst hs; simp at hu; subst hu; exact h
  · have:(s == d)=false:=by simpa using hs
    simp only [this] at hu
    exact k s u hu
theorem i7.refl (l:List (Nat×Value)):i7 l l:=fun _ _ h=>h
theorem FH.sub {n:Nat} {l l':List (Nat×Value)} {a:Act} (h:FH n l a) (k:i7 l' l):FH n l' a:=⟨h.sz,h.df,fun s v hv=>h.at_ s v (k s v hv)⟩
abbrev au:=World×(Nat→Prop)
structure Mem (w:World) (own:List (Nat×Obj)) (ro:List au):Prop where
  own_at:∀ p∈own,w.heap[p.1]?=some p.2
  own_nd:(own.map (·.1)).Nodup
  ro_st:∀ s∈ro,w.os=s.1.os∧w.tape=s.1.tape∧w.output=s.1.output∧s.1.heap.size≤w.heap.size
  ro_at:∀ s∈ro,∀ k,s.2 k→k < s.1.heap.size→w.heap[k]?=s.1.heap[k]?
  apart:∀ p∈own,∀ s∈ro,s.2 p.1→s.1.heap.size≤p.1
theorem dO {w:World} {k:Nat} {o:Obj} (h:w.heap[k]?=some o):k < w.heap.size:=by
  rcases Nat.lt_or_ge k w.heap.size with h' | h'
  · exact h'
  · rw [Array.getElem?_eq_none h'] at h; cases h
section
variable {w w':World} {own:List (Nat×Obj)} {ro:List au}
theorem Mem.later (h:Mem w own ro) (hl:Later w w'):Mem w' own ro where
  own_at:=fun p hp=>(hl.block p.1 (dO (h.own_at p hp))).trans (h.own_at p hp)
  own_nd:=h.own_nd
  ro_st:=fun s hs=>by
    obtain ⟨h1,h2,h3,h4⟩:=h.ro_st s hs
    exact ⟨hl.os.trans h1,hl.tape.trans h2,hl.output.trans h3,Nat.le_trans h4 hl.size⟩
  ro_at:=fun s hs k hk hlt=>(hl.block k (Nat.lt_of_lt_of_le hlt (h.ro_st s hs).2.2.2)).trans (h.ro_at s hs k hk hlt)
  apart:=h.apart
theorem Mem.lt (h:Mem w own ro) {p:Nat×Obj} (hp:p∈own):p.1 < w.heap.size:=dO (h.own_at p hp)
theorem Mem.new (h:Mem w own ro) (o:Obj):Mem (w.alloc o) ((w.heap.size,o)::own) ro where
  own_at:=fun p hp=>by
    rcases List.mem_cons.1 hp with rfl | hp
    · show (w.heap.push o)[w.heap.size]?=some o
      simp
    · exact (Below.heap_alloc w o p.1 (h.lt hp)).trans (h.own_at p hp)
  own_nd:=by
    simp only [List.map_cons,List.nodup_cons]
    refine ⟨fun hm=>?_,h.own_nd⟩
    obtain ⟨p,hp,he⟩:=List.mem_map.1 hm
    have:=h.lt hp
    omega
  ro_st:=(h.later (Later.alloc w o)).ro_st
  ro_at:=(h.later (Later.alloc w o)).ro_at
  apart:=fun p hp s hs hd=>by
    rcases List.mem_cons.1 hp with rfl | hp
    · exact (h.ro_st s hs).2.2.2
    · exact h.apart p hp s hs hd
structure Turned (w w':World) (b:Nat) (o:Obj):Prop where
  os:w'.os=w.os
  tape:w'.tape=w.tape
  output:w'.output=w.output
  size:w'.heap.size=w.heap.size
  at_:w'.heap[b]?=some o
  other:∀ k,k≠b→w'.heap[k]?=w.heap[k]?
theorem Mem.turn {l1 l2:List (Nat×Obj)} {b:Nat} {o o':Obj} (h:Mem w (l1++(b,o)::l2) ro) (ht:Turned w w' b o'):Mem w' (l1++(b,o')::l2) ro:=by
  have hb:(b,o)∈l1++(b,o)::l2:=by simp
  have hnd:=h.own_nd
  simp only [List.map_append,List.map_cons] at hnd
  have hne:∀ p,p∈l1∨p∈l2→p.1≠b:=by
    intro p hp e
    rw [List.nodup_append] at hnd
    obtain ⟨_,h2,h3⟩:=hnd
    rcases hp with hp | hp
    · exact h3 p.1 (List.mem_map_of_mem hp) b (by simp) e
    · exact (List.nodup_cons.1 h2).1 (e▸List.mem_map_of_mem hp)
  refine ⟨fun p hp=>?_,by simpa using h.own_nd,fun s hs=>?_,fun s hs k hk hlt=>?_,fun p hp s hs hd=>?_⟩
  · simp only [List.mem_append,List.mem_cons] at hp
    rcases hp with hp | rfl | hp
    · exact (ht.other _ (hne p (.inl hp))).trans (h.own_at p (by simp [hp]))
    · exact ht.at_
    · exact (ht.other _ (hne p (.inr hp))).trans (h.own_at p (by simp [hp]))
  · obtain ⟨h1,h2,h3,h4⟩:=h.ro_st s hs
    exact ⟨ht.os.trans h1,ht.tape.trans h2,ht.output.trans h3,by rw [ht.size]; exact h4⟩
  · have:k≠b:=fun e=>by
      subst e
      have:=h.apart _ hb s hs hk
      simp only at this
      omega
    exact (ht.other k this).trans (h.ro_at s hs k hk hlt)
  · simp only [List.mem_append,List.mem_cons] at hp
    rcases hp with hp | rfl | hp
    · exact h.apart p (by simp [hp]) s hs hd
    · exact h.apart (b,o) hb s hs hd
    · exact h.apart p (by simp [hp]) s hs hd
def aZ (own:List (Nat×Obj)):Nat→Prop:=fun k=>∀ p∈own,p.1≠k
theorem Mem.snap (h:Mem w own ro):Mem w own ((w,aZ own)::ro) where
  own_at:=h.own_at
  own_nd:=h.own_nd
  ro_st:=fun s hs=>by
    rcases List.mem_cons.1 hs with rfl | hs
    · exact ⟨rfl,rfl,rfl,Nat.le_refl _⟩
    · exact h.ro_st s hs
  ro_at:=fun s hs k hk hlt=>by
    rcases List.mem_cons.1 hs with rfl | hs
    · rfl
    · exact h.ro_at s hs k hk hlt
  apart:=fun p hp s hs hd=>by
    rcases List.mem_cons.1 hs with rfl | hs
    · exact absurd rfl (hd p hp)
    · exact h.apart p hp s hs hd
theorem Mem.less (h:Mem w own ro) {own':List (Nat×Obj)} {ro':List au} (ho:own'.Sublist own) (hr:∀ s∈ro',s∈ro):Mem w own' ro' :=
  ⟨fun p hp=>h.own_at p (ho.subset hp),(ho.map _).nodup h.own_nd,fun s hs=>h.ro_st s (hr s hs),fun s hs=>h.ro_at s (hr s hs),fun p hp s hs=>h.apart p (ho.subset hp) s (hr s hs)⟩
theorem Mem.init (w:World):Mem w [] [(w,fun _=>True)] :=
  ⟨fun p hp=>by simp at hp,by simp,fun s hs=>by simp at hs; subst hs; exact ⟨rfl,rfl,rfl,Nat.le_refl _⟩,fun s hs k _ _=>by simp at hs; subst hs; rfl,fun p hp=>by simp at hp⟩
theorem Mem.base (h:Mem w own ro) {w0:World} (hs:(w0,fun _=>True)∈ro):Later w0 w:=by
  obtain ⟨h1,h2,h3,h4⟩:=h.ro_st _ hs
  exact ⟨h1,h2,h3,h4,fun k hk=>h.ro_at _ hs k trivial hk⟩
theorem Mem.cell_ro (h:Mem w own ro) {s:au} (hs:s∈ro) {p:Addr} (hd:s.2 p.block) (hlt:p.block < s.1.heap.size):w.cell? p=s.1.cell? p :=
  World.cell?_of_block (w:=s.1) (h.ro_at s hs p.block hd hlt)
theorem em {w:World} {p:Addr} {v:Value} (h:w.cell? p=some v):p.block < w.heap.size:=by
  unfold World.cell? at h
  split at h
  · exact dO ‹_›
  · cases h
theorem Mem.cell_own (h:Mem w own ro) {b:Nat} {cs:Array Value} {t:TypeId} {fz:Nat×Nat} (hb:(b,Obj.cells cs t fz)∈own) (i:Nat):w.cell? ⟨b,i,none⟩=cs[i]? :=
  cell_of_row w b i cs t fz (h.own_at _ hb)
end
section
variable {P:Program} {n:Nat} {l:List (Nat×Value)} {own:List (Nat×Obj)} {ro:List au}
def W (P:Program) (c:Code) (Q:Exit→Act→World→Prop) (n:Nat) (l:List (Nat×Value)) (own:List (Nat×Obj)) (ro:List au):Prop :=
  ∀ a w,FH n l a→Mem w own ro→c.wp P Q a w
def S (K:Act→World→Prop) (n:Nat) (l:List (Nat×Value)) (own:List (Nat×Obj)) (ro:List au):Prop:=∀ a w,FH n l a→Mem w own ro→K a w
def gW (P:Program) (ops:Array Oper) (Q:Exit→Act→World→Prop) (K:Act→World→Prop):List (Option Bool×Nat)→Act→World→Prop
  | [],a,w=>∀ w',Later w w'→K a w'
  | (k,i)::rest,a,w=>match ops[i]? with
    | none=>False
    | some o=>match k with
      | some b=>if Region.wanted o (yielded ops a.tmps) then
          (match b with
           | true=>flt P o a w (fun a'=>gW P ops Q K rest a' w)
           | false=>grw P o a w (gW P ops Q K rest))
          else gW P ops Q K rest (a.put o.dst undef) w
      | none=>∀ w',Later w w'→if Region.wanted o (yielded ops a.tmps) then o.wp P a w' (gW P ops Q K rest) Q else gW P ops Q K rest (a.put o.dst undef) w'
def WX (P:Program) (ops:Array Oper) (Q:Exit→Act→World→Prop) (K:Act→World→Prop) (plan:List (Option Bool×Nat)) (n:Nat) (l:List (Nat×Value)) (own:List (Nat×Obj)) (ro:List au):Prop :=
  ∀ a w,FH n l a→Mem w own ro→gW P ops Q K plan a w
theorem j2 {ops:Array Oper} {Q:Exit→Act→World→Prop} {K:Act→World→Prop} {rest:List Nat} {a:Act} {w w':World} (hl:Later w w') (h:gW P ops Q K (rest.map fun i=>(none,i)) a w) :
    gW P ops Q K (rest.map fun i=>(none,i)) a w':=by
  cases rest with
  | nil=>exact fun w2 h2=>h w2 (hl.trans h2)
  | cons i rest =>
    simp only [List.map_cons,gW] at h ⊢
    split <;> rename_i ho <;> simp only [ho] at h
    exact fun w2 h2=>h w2 (hl.trans h2)
theorem dS {Q:Exit→Act→World→Prop} {lops:List Oper}:∀ (r:List Oper) (k:Nat) (a:Act) (w:World),lops.drop k=r →
    gW P lops.toArray Q (fun a w=>Q .normal a w) ((List.range' k (lops.length - k)).map fun i=>(none,i)) a w→wpList P lops.toArray Q r a w
  | [],k,a,w,hr,h=>by
    have hk:lops.length≤k:=by simpa using hr
    rw [show lops.length - k=0 by omega] at h
    exact h w (Later.refl _)
  | o::r,k,a,w,hr,h=>by
    have hk:k < lops.length:=by
      rcases Nat.lt_or_ge k lops.length with h' | h'
      · exact h'
      · rw [List.drop_eq_nil_of_le h'] at hr; cases hr
    have hd:=List.drop_eq_getElem_cons hk
    rw [hr] at hd
    injection hd with h1 h2
    rw [show lops.length - k=(lops.length - (k+1))+1 by omega,List.range'_succ,List.map_cons] at h
    simp only [gW,List.getElem?_toArray,List.getElem?_eq_getElem hk,← h1] at h
    have h3:=h w (Later.refl _)
    refine wpList_step fun K hK=>?_
    split <;> rename_i hw
    · rw [if_pos hw] at h3
      exact Oper.wp_mono (fun a' w' hk'=>hK _ _ (dS r (k+1) a' w' h2.symm hk')) h3
    · rw [if_neg hw] at h3
      exact hK _ _ (dS r (k+1) _ w h2.symm h3)
def dT (m s:Nat):List (Option Bool×Nat):=(List.range' m (s - m)).map fun i=>(none,i)
theorem i8 {lops:List Oper} {Q:Exit→Act→World→Prop} (m:Nat):∀ (plan:List (Bool×Nat)) (a:Act) (w:World),
    gW P lops.toArray Q (fun a w=>Q .normal a w) ((plan.map fun p=>(some p.1,p.2))++dT m lops.length) a w →
    ky P lops.toArray (fun a' w'=>∀ w'',Later w' w''→wpList P lops.toArray Q (lops.drop m) a' w'') plan a w
  | [],a,w,h=>fun w2 h2=>dS _ m a w2 rfl (j2 h2 h)
  | (b,i)::plan,a,w,h=>by
    simp only [List.map_cons,List.cons_append,gW] at h
    simp only [ky]
    split <;> rename_i ho <;> simp only [ho] at h
    split <;> rename_i hw
    · rw [if_pos hw] at h
      cases b with
      | true=>obtain ⟨v,h1,h2⟩:=h; exact ⟨v,h1,i8 m plan _ w h2⟩
      | false=>exact fun w2 h2=>Oper.wp_mono (fun a' w' hk=>⟨hk.1,i8 m plan a' w' hk.2⟩) (h w2 h2)
    · rw [if_neg hw] at h
      exact i8 m plan _ w h
theorem ep {id:Nat} {Q:Exit→Act→World→Prop} {lops:List Oper} (m:Nat) (plan:List (Bool×Nat)) (hm:P.follows .mixedOrders=true) (hB:canB .any lops.toArray m plan=true)
    (h:WX P lops.toArray Q (fun a w=>Q .normal a w) ((plan.map fun p=>(some p.1,p.2))++dT m lops.length) n l own ro):W P (.region id lops.toArray true) Q n l own ro :=
  fun a w ha hw=>pD m plan hm hB (i8 m plan a w (h a w ha hw))
theorem rg_text {id:Nat} {Q:Exit→Act→World→Prop} {lops:List Oper}
    (h:WX P lops.toArray Q (fun a w=>Q .normal a w) (dT 0 lops.length) n l own ro):W P (.region id lops.toArray false) Q n l own ro :=
  fun a w ha hw=>wp_region_lit (dS lops 0 a w (by simp) (h a w ha hw))
section
variable {Q:Exit→Act→World→Prop}
theorem w_seq {x y:Code} (h:W P x (Exit.then (y.wp P Q) Q) n l own ro):W P (.seq x y) Q n l own ro:=fun a w ha hw=>wp_seq (h a w ha hw)
theorem nh {id:Nat} {c:Code} (h:W P c (Exit.inBlock id Q) n l own ro):W P (.block id c) Q n l own ro:=fun a w ha hw=>wp_block (h a w ha hw)
theorem eu (h:S (Q .normal) n l own ro):W P .skip Q n l own ro:=fun a w ha hw=>wp_skip (h a w ha hw)
theorem w_exit {id:Nat} (h:S (Q (.exit id)) n l own ro):W P (.exit id) Q n l own ro:=fun a w ha hw=>wp_exit (h a w ha hw)
theorem w_ret (h:S (Q .ret) n l own ro):W P .ret Q n l own ro:=fun a w ha hw=>wp_ret (h a w ha hw)
theorem rh {c:Operand} {x y:Code} {t:Bool} (hc:ev l c=some (.bool t)) (ht:t=true→W P x Q n l own ro) (hf:t=false→W P y Q n l own ro):W P (.cond c x y) Q n l own ro :=
  fun a w ha hw=>wp_cond_split (ha.eval hc) (fun h=>ht h a w ha hw) (fun h=>hf h a w ha hw)
theorem aN {c:Code} {σ:Type} (I:σ→Prop) (L:σ→List (Nat×Value)) (O:σ→List (Nat×Obj)) (R:σ→List au) (μ:σ→Nat) (x0:σ) (hI:I x0)
    (h0:∀ a w,FH n l a→Mem w own ro→FH n (L x0) a∧Mem w (O x0) (R x0))
    (round:∀ x,I x→W P c (Exit.then (fun a w=>∃ x',I x'∧μ x' < μ x∧FH n (L x') a∧Mem w (O x') (R x')) Q) n (L x) (O x) (R x)):W P (.loop c) Q n l own ro:=by
  intro a w ha hw b k cs
  have key:∀ m x,I x→μ x=m→∀ a w,FH n (L x) a→Mem w (O x) (R x) →
      ∃ e a' w',Q e a' w'∧Arrives P (lone (b.at a (.code c::.inLoop c::k)) cs w) b k cs e a' w':=by
    intro m
    induction m using Nat.strongRecOn with
    | _ m ih =>
      intro x hIx hx a w ha hw
      obtain ⟨e,a₁,w₁,hq,harr⟩:=round x hIx a w ha hw b (.inLoop c::k) cs
      cases e with
      | normal =>
        obtain ⟨x',hI',hlt,ha',hw'⟩:=hq
        obtain ⟨e₂,a₂,w₂,hq₂,harr₂⟩:=ih (μ x') (hx▸hlt) x' hI' rfl a₁ w₁ ha' hw'
        exact ⟨e₂,a₂,w₂,hq₂,.of_steps (Steps.trans harr (.one step_inLoop)) harr₂⟩
      | exit id=>exact ⟨_,a₁,w₁,hq,.pass (x:=.inLoop c) rfl (fun _ _=>.inl (by simp)) harr⟩
      | goto l=>exact ⟨_,a₁,w₁,hq,.pass (x:=.inLoop c) rfl (fun _ _=>.inl (by simp)) harr⟩
      | ret=>exact ⟨_,a₁,w₁,hq,.pass (x:=.inLoop c) rfl (fun _ _=>.inl (by simp)) harr⟩
      | panic ch=>exact ⟨_,a₁,w₁,hq,.pass (x:=.inLoop c) rfl (fun _ _=>.inl (by simp)) harr⟩
      | outgrown=>exact ⟨_,a₁,w₁,hq,.pass (x:=.inLoop c) rfl (fun _ _=>.inl (by simp)) harr⟩
  obtain ⟨h1,h2⟩:=h0 a w ha hw
  obtain ⟨e,a',w',hq,harr⟩:=key _ x0 hI rfl a w h1 h2
  exact ⟨e,a',w',hq,.of_steps (.one step_loop) harr⟩
end
end
end Go.PK

namespace Go.PK
open Go Go.RowKit
section
variable {P:Program} {n:Nat} {l:List (Nat×Value)} {own:List (Nat×Obj)} {ro:List au} {lops:List Oper} {Q:Exit→Act→World→Prop} {K:Act→World→Prop}
  {rest:List (Option Bool×Nat)} {k:Option Bool} {i d:Nat} {op:Op} {ty:TypeId} {pos:String} {af:Array Edge}
def cv (P:Program) (n:Nat) (l:List (Nat×Value)) (own:List (Nat×Obj)) (ro:List au) (op:Op) (ty:TypeId) (v:Value):Prop :=
  ∀ a w (o:Oper),FH n l a→Mem w own ro→o.op=op→o.type=ty→(execOp a.eval o).run P w=.ok (.value v) w
theorem x_end (h:S K n l own ro):WX P lops.toArray Q K [] n l own ro:=fun a w ha hw w' hl=>h a w' ha (hw.later hl)
def Go_ (lops:List Oper) (n:Nat) (l:List (Nat×Value)) (o:Oper):Prop:=∀ a,FH n l a→Region.wanted o (yielded lops.toArray a.tmps)=true
def No_ (lops:List Oper) (n:Nat) (l:List (Nat×Value)) (o:Oper):Prop:=∀ a,FH n l a→Region.wanted o (yielded lops.toArray a.tmps)=false
theorem bS {o:Oper} (h:o.guard=none):Go_ lops n l o:=fun _ _=>by simp [Region.wanted,h]
theorem mL {o:Oper} {a:Act} {j dj:Nat} {want b:Bool} (hg:o.guard=some (j,want)) (hj:(lops[j]?).bind (·.dst)=some dj) (ha:FH n l a) (hb:l.lookup dj=some (.bool b)) :
    Region.wanted o (yielded lops.toArray a.tmps)=(b == want):=by
  simp only [Region.wanted,hg,yielded,List.getElem?_toArray,hj,Option.bind_some,ha.at_ _ _ hb]
  cases b <;> cases want <;> rfl
theorem gZ {o:Oper} {j dj:Nat} {want:Bool} (hg:o.guard=some (j,want)) (hj:(lops[j]?).bind (·.dst)=some dj) (hb:l.lookup dj=some (.bool want)):Go_ lops n l o :=
  fun a ha=>by rw [mL hg hj ha hb]; simp
theorem vY {o:Oper} {j dj:Nat} {want b:Bool} (hg:o.guard=some (j,want)) (hj:(lops[j]?).bind (·.dst)=some dj) (hb:l.lookup dj=some (.bool b)) (hne:(b == want)=false):No_ lops n l o :=
  fun a ha=>by rw [mL hg hj ha hb,hne]
theorem vZ {o:Oper} (ho:lops[i]?=some o) (hgo:Go_ lops n l o) (hd0:o.dst=some d) (hk:k.getD true=true) (hd:decide (d < n)=true) {v:Value} (hv:cv P n l own ro o.op o.type v)
    (h:WX P lops.toArray Q K rest n ((d,v)::l) own ro):WX P lops.toArray Q K ((k,i)::rest) n l own ro:=by
  intro a w ha hw
  have hd':d < n:=of_decide_eq_true hd
  have hw1:=hgo a ha
  simp only [gW,List.getElem?_toArray,ho]
  cases k with
  | none =>
    intro w' hl
    rw [if_pos hw1]
    unfold Oper.wp
    rw [hv a w' _ ha (hw.later hl) rfl rfl]
    show gW P lops.toArray Q K rest (a.put o.dst v) w'
    rw [hd0]
    exact h _ w' (ha.put v hd') (hw.later hl)
  | some b =>
    simp at hk
    subst hk
    dsimp only
    rw [if_pos hw1]
    refine ⟨v,fun w' hl=>?_,by rw [hd0]; exact h _ w (ha.put v hd') hw⟩
    unfold fU
    rw [hv a w' _ ha (hw.later hl) rfl rfl]
    exact ⟨rfl,rfl⟩
theorem ri {o:Oper} (ho:lops[i]?=some o) (hno:No_ lops n l o) (hd0:o.dst=some d) (hd:decide (d < n)=true)
    (h:WX P lops.toArray Q K rest n ((d,undef)::l) own ro):WX P lops.toArray Q K ((k,i)::rest) n l own ro:=by
  intro a w ha hw
  have hd':d < n:=of_decide_eq_true hd
  have hw1:¬ Region.wanted o (yielded lops.toArray a.tmps)=true:=by rw [hno a ha]; simp
  simp only [gW,List.getElem?_toArray,ho]
  cases k with
  | none=>intro w' hl; rw [if_neg hw1,hd0]; exact h _ w' (ha.put undef hd') (hw.later hl)
  | some b=>dsimp only; rw [if_neg hw1,hd0]; exact h _ w (ha.put undef hd') hw
theorem fj (ho:lops[i]?=some ⟨some d,op,ty,pos,af,none⟩) (hk:k.getD true=true) (hd:decide (d < n)=true) {v:Value} (hv:cv P n l own ro op ty v)
    (h:WX P lops.toArray Q K rest n ((d,v)::l) own ro):WX P lops.toArray Q K ((k,i)::rest) n l own ro :=
  vZ ho (bS rfl) rfl hk hd hv h
theorem ew (ho:lops[i]?=some ⟨some d,op,ty,pos,af,none⟩) (hk:k.getD true=true) (hd:decide (d < n)=true) {b:Bool} (hv:cv P n l own ro op ty (.bool b))
    (h:∀ c,c=b→WX P lops.toArray Q K rest n ((d,.bool c)::l) own ro):WX P lops.toArray Q K ((k,i)::rest) n l own ro :=
  fj ho hk hd hv (h b rfl)
theorem x_no {j dj:Nat} {want b:Bool} (ho:lops[i]?=some ⟨some d,op,ty,pos,af,some (j,want)⟩) (hj:(lops[j]?).bind (·.dst)=some dj) (hb:l.lookup dj=some (.bool b)) (hne:(b == want)=false) (hd:decide (d < n)=true)
    (h:WX P lops.toArray Q K rest n ((d,undef)::l) own ro):WX P lops.toArray Q K ((k,i)::rest) n l own ro :=
  ri ho (vY rfl hj hb hne) rfl hd h
def kz:List (Bool×Bool)→Value→Value
  | [],v=>v
  | (b,w)::gs,v=>if b=w then kz gs v else undef
def ks:List (Bool×Bool)→Prop
  | []=>True
  | (b,w)::gs=>b=w∧ks gs
theorem gvl_nil (v:Value):kz [] v=v:=rfl
theorem gvl_t (gs:List (Bool×Bool)) (v:Value):kz ((true,true)::gs) v=kz gs v:=rfl
theorem gvl_f (gs:List (Bool×Bool)) (v:Value):kz ((false,false)::gs) v=kz gs v:=rfl
theorem lm:∀ {gs:List (Bool×Bool)} {v:Value},ks gs→kz gs v=v
  | [],_,_=>rfl
  | (b,w)::gs,v,h=>by simp only [kz,h.1,if_true]; exact lm h.2
theorem rj:∀ {gs:List (Bool×Bool)} {v:Value},¬ ks gs→kz gs v=undef
  | [],_,h=>absurd trivial h
  | (b,w)::gs,v,h=>by
    simp only [kz]
    split
    · rename_i hb; exact rj fun hg=>h ⟨hb,hg⟩
    · rfl
theorem ix:∀ {gs:List (Bool×Bool)} {b w:Bool},ks (gs++[(b,w)])↔ks gs∧b=w
  | [],b,w=>by simp [ks]
  | (c,x)::gs,b,w=>by simp only [List.cons_append,ks,ix,and_assoc]
theorem go_gs {o:Oper} {j dj:Nat} {want b:Bool} {gs:List (Bool×Bool)} (hg:o.guard=some (j,want)) (hj:(lops[j]?).bind (·.dst)=some dj) (hb:l.lookup dj=some (kz gs (.bool b))) (h:ks gs) (hw:b=want):Go_ lops n l o :=
  fun a ha=>by rw [lm h] at hb; subst hw; exact gZ hg hj hb a ha
theorem no_gs {o:Oper} {j dj:Nat} {want b:Bool} {gs:List (Bool×Bool)} (hg:o.guard=some (j,want)) (hj:(lops[j]?).bind (·.dst)=some dj) (hb:l.lookup dj=some (kz gs (.bool b))) (h:¬ (ks gs∧b=want)):No_ lops n l o:=by
  by_cases hgs:ks gs
  · rw [lm hgs] at hb
    exact vY hg hj hb (by simpa using fun e=>h ⟨hgs,e⟩)
  · rw [rj hgs] at hb
    intro a ha
    simp only [Region.wanted,hg,yielded,List.getElem?_toArray,hj,Option.bind_some,ha.at_ _ _ hb,undef]
    cases want <;> rfl
theorem fP {j dj:Nat} {want b:Bool} (gs:List (Bool×Bool)) (ho:lops[i]?=some ⟨some d,op,ty,pos,af,some (j,want)⟩) (hj:(lops[j]?).bind (·.dst)=some dj) (hb:l.lookup dj=some (kz gs (.bool b))) (hk:k.getD true=true) (hd:decide (d < n)=true) {v:Value}
    (hv:ks (gs++[(b,want)])→cv P n l own ro op ty v)
    (h:WX P lops.toArray Q K rest n ((d,kz (gs++[(b,want)]) v)::l) own ro):WX P lops.toArray Q K ((k,i)::rest) n l own ro:=by
  by_cases hg:ks (gs++[(b,want)])
  · obtain ⟨h1,h2⟩:=ix.1 hg
    refine vZ ho (go_gs rfl hj hb h1 h2) rfl hk hd (hv hg) ?_
    rwa [lm hg] at h
  · refine ri ho (no_gs rfl hj hb fun h=>hg (ix.2 h)) rfl hd ?_
    rwa [rj hg] at h
theorem fk {j dj:Nat} {want b c:Bool} (gs:List (Bool×Bool)) (ho:lops[i]?=some ⟨some d,op,ty,pos,af,some (j,want)⟩) (hj:(lops[j]?).bind (·.dst)=some dj) (hb:l.lookup dj=some (kz gs (.bool b))) (hk:k.getD true=true) (hd:decide (d < n)=true)
    (hv:ks (gs++[(b,want)])→cv P n l own ro op ty (.bool c))
    (h:∀ c',c'=c→WX P lops.toArray Q K rest n ((d,kz (gs++[(b,want)]) (.bool c'))::l) own ro):WX P lops.toArray Q K ((k,i)::rest) n l own ro :=
  fP gs ho hj hb hk hd hv (h c rfl)
theorem x4 {f:FuncId} {fn:Func} (hf:P.funcs[f]?=some fn) (hbody:(!(fn.name == "runtime.NumGoroutine") && fn.body.isSome)=true) (args:Array Value) (w:World) :
    (callFunc f args).run P w=.ok (.enter f args) w:=by
  simp only [Bool.and_eq_true,Bool.not_eq_true'] at hbody
  obtain ⟨h1,h2⟩:=hbody
  have h1':¬ fn.name="runtime.NumGoroutine":=by simpa using h1
  have h3:¬ fn.body=none:=by intro h; simp [h] at h2
  simp [callFunc,hf,h1',h3]
theorem dJ {a:Act} {o:Oper} {w:World} {f:FuncId} {fn:Func} {xs:Array Operand} {tys:Array TypeId} {c:Operand} {vs:List Value} {cap:Array Value} {fst:Array Value}
    (ho:o.op=.call ⟨.value c,xs,tys⟩) (ha:FH n l a) (hcal:ev l c=some (.func (.func f) fst cap)) (hf:P.funcs[f]?=some fn) (hbody:(!(fn.name == "runtime.NumGoroutine") && fn.body.isSome)=true) (hx:ll l xs.toList=some vs) :
    (execOp a.eval o).run P w=.ok (.enter f (fst++vs.toArray++cap)) w:=by
  have hargs:xs.map a.eval=vs.toArray:=by
    have:=ha.evals hx
    rw [← this,← Array.toList_map]
  simp [execOp,ho,resolve,hargs,ha.eval hcal,Deferred.ofValue,invoke,x4 hf hbody,Array.append_assoc]
theorem f0 {o:Oper} {f:FuncId} {fn:Func} {xs:Array Operand} {tys:Array TypeId} {c:Operand} {vs:List Value} {fst cap:Array Value} (ho:lops[i]?=some o) (hgo:Go_ lops n l o) (hop:o.op=.call ⟨.value c,xs,tys⟩) (hd0:o.dst=some d) (hk:k.getD true=true) (hd:decide (d < n)=true)
    (hcal:ev l c=some (.func (.func f) fst cap)) (hf:P.funcs[f]?=some fn) (hbody:(!(fn.name == "runtime.NumGoroutine") && fn.body.isSome)=true) (hx:ll l xs.toList=some vs) {v:Value}
    (hc:∀ w,Mem w own ro→Calls P f (fst++vs.toArray++cap) w fun e w'=>e=.returned v∧Later w w')
    (h:WX P lops.toArray Q K rest n ((d,v)::l) own ro):WX P lops.toArray Q K ((k,i)::rest) n l own ro:=by
  intro a w ha hw
  have hd':d < n:=of_decide_eq_true hd
  have hw1:=hgo a ha
  simp only [gW,List.getElem?_toArray,ho]
  cases k with
  | none =>
    intro w' hl
    rw [if_pos hw1]
    unfold Oper.wp
    rw [dJ hop ha hcal hf hbody hx]
    refine Calls.mono (hc w' (hw.later hl)) fun e w2 he=>?_
    obtain ⟨rfl,hl2⟩:=he
    show gW P lops.toArray Q K rest (a.put o.dst v) w2
    rw [hd0]
    exact h _ w2 (ha.put v hd') ((hw.later hl).later hl2)
  | some b =>
    simp at hk
    subst hk
    dsimp only
    rw [if_pos hw1]
    refine ⟨v,fun w' hl=>?_,by rw [hd0]; exact h _ w (ha.put v hd') hw⟩
    unfold fU
    rw [dJ hop ha hcal hf hbody hx]
    exact ⟨rfl,hc w' (hw.later hl)⟩
theorem ni {f:FuncId} {fn:Func} {xs:Array Operand} {tys:Array TypeId} {vs:List Value} (ho:lops[i]?=some ⟨some d,.call ⟨.value (.func f),xs,tys⟩,ty,pos,af,none⟩) (hk:k.getD true=true) (hd:decide (d < n)=true)
    (hf:P.funcs[f]?=some fn) (hbody:(!(fn.name == "runtime.NumGoroutine") && fn.body.isSome)=true) (hx:ll l xs.toList=some vs) {v:Value}
    (hc:∀ w,Mem w own ro→Calls P f vs.toArray w fun e w'=>e=.returned v∧Later w w')
    (h:WX P lops.toArray Q K rest n ((d,v)::l) own ro):WX P lops.toArray Q K ((k,i)::rest) n l own ro :=
  f0 (fst:=#[]) (cap:=#[]) ho (bS rfl) rfl rfl hk hd rfl hf hbody hx (by simpa using hc) h
theorem x_callb {f:FuncId} {fn:Func} {xs:Array Operand} {tys:Array TypeId} {vs:List Value} (ho:lops[i]?=some ⟨some d,.call ⟨.value (.func f),xs,tys⟩,ty,pos,af,none⟩) (hk:k.getD true=true) (hd:decide (d < n)=true)
    (hf:P.funcs[f]?=some fn) (hbody:(!(fn.name == "runtime.NumGoroutine") && fn.body.isSome)=true) (hx:ll l xs.toList=some vs) {b:Bool}
    (hc:∀ w,Mem w own ro→Calls P f vs.toArray w fun e w'=>e=.returned (.bool b)∧Later w w')
    (h:∀ c,c=b→WX P lops.toArray Q K rest n ((d,.bool c)::l) own ro):WX P lops.toArray Q K ((k,i)::rest) n l own ro :=
  ni ho hk hd hf hbody hx hc (h b rfl)
theorem l6 {j dj:Nat} {want b:Bool} (gs:List (Bool×Bool)) {f:FuncId} {fn:Func} {xs:Array Operand} {tys:Array TypeId} (ho:lops[i]?=some ⟨some d,.call ⟨.value (.func f),xs,tys⟩,ty,pos,af,some (j,want)⟩) (hj:(lops[j]?).bind (·.dst)=some dj) (hb:l.lookup dj=some (kz gs (.bool b))) (hk:k.getD true=true) (hd:decide (d < n)=true)
    (hf:P.funcs[f]?=some fn) (hbody:(!(fn.name == "runtime.NumGoroutine") && fn.body.isSome)=true) {v:Value}
    (hc:ks (gs++[(b,want)])→∃ vs,ll l xs.toList=some vs∧∀ w,Mem w own ro→Calls P f vs.toArray w fun e w'=>e=.returned v∧Later w w')
    (h:WX P lops.toArray Q K rest n ((d,kz (gs++[(b,want)]) v)::l) own ro):WX P lops.toArray Q K ((k,i)::rest) n l own ro:=by
  by_cases hg:ks (gs++[(b,want)])
  · obtain ⟨h1,h2⟩:=ix.1 hg
    obtain ⟨vs,hx,hc⟩:=hc hg
    refine f0 (fst:=#[]) (cap:=#[]) ho (go_gs rfl hj hb h1 h2) rfl rfl hk hd rfl hf hbody hx (by simpa using hc) ?_
    rwa [lm hg] at h
  · refine ri ho (no_gs rfl hj hb fun h=>hg (ix.2 h)) rfl hd ?_
    rwa [rj hg] at h
theorem cM {j dj:Nat} {want b:Bool} (gs:List (Bool×Bool)) {f:FuncId} {fn:Func} {xs:Array Operand} {tys:Array TypeId} (ho:lops[i]?=some ⟨some d,.call ⟨.value (.func f),xs,tys⟩,ty,pos,af,some (j,want)⟩) (hj:(lops[j]?).bind (·.dst)=some dj) (hb:l.lookup dj=some (kz gs (.bool b))) (hk:k.getD true=true) (hd:decide (d < n)=true)
    (hf:P.funcs[f]?=some fn) (hbody:(!(fn.name == "runtime.NumGoroutine") && fn.body.isSome)=true) {c:Bool}
    (hc:ks (gs++[(b,want)])→∃ vs,ll l xs.toList=some vs∧∀ w,Mem w own ro→Calls P f vs.toArray w fun e w'=>e=.returned (.bool c)∧Later w w')
    (h:∀ c',c'=c→WX P lops.toArray Q K rest n ((d,kz (gs++[(b,want)]) (.bool c'))::l) own ro):WX P lops.toArray Q K ((k,i)::rest) n l own ro :=
  l6 gs ho hj hb hk hd hf hbody hc (h c rfl)
theorem jD {o:Oper} {f:FuncId} {fn:Func} {xs:Array Operand} {tys:Array TypeId} {c:Operand} {vs:List Value} {fst cap:Array Value} (ho:lops[i]?=some o) (hgo:Go_ lops n l o) (hop:o.op=.call ⟨.value c,xs,tys⟩) (hd0:o.dst=some d) (hk:(k == some true)=false) (hd:decide (d < n)=true)
    (hcal:ev l c=some (.func (.func f) fst cap)) (hf:P.funcs[f]?=some fn) (hbody:(!(fn.name == "runtime.NumGoroutine") && fn.body.isSome)=true) (hx:ll l xs.toList=some vs) {R:Value→World→World→Prop}
    (hc:∀ w,Mem w own ro→Calls P f (fst++vs.toArray++cap) w fun e w'=>∃ v,e=.returned v∧Later w w'∧R v w w')
    (h:∀ v w1 w2,Mem w1 own ro→Later w1 w2→R v w1 w2→WX P lops.toArray Q K rest n ((d,v)::l) own ((w2,aZ own)::ro)):WX P lops.toArray Q K ((k,i)::rest) n l own ro:=by
  intro a w ha hw
  have hd':d < n:=of_decide_eq_true hd
  have hw1:=hgo a ha
  simp only [gW,List.getElem?_toArray,ho]
  have key:∀ w',Later w w'→Calls P f (fst++vs.toArray++cap) w' fun e w''=>∃ v,e=.returned v∧Later w' w''∧gW P lops.toArray Q K rest (a.put o.dst v) w'':=fun w' hl =>
    Calls.mono (hc w' (hw.later hl)) fun e w2 ⟨v,he,hl2,hr⟩=>⟨v,he,hl2,by
      rw [hd0]
      exact h v w' w2 (hw.later hl) hl2 hr _ w2 (ha.put v hd') ((hw.later hl).later hl2).snap⟩
  cases k with
  | none =>
    intro w' hl
    rw [if_pos hw1]
    unfold Oper.wp
    rw [dJ hop ha hcal hf hbody hx]
    refine Calls.mono (key w' hl) fun e w2 he=>?_
    obtain ⟨v,rfl,hl2,hx2⟩:=he
    exact hx2
  | some b =>
    have:b=false:=by cases b <;> simp_all
    subst this
    dsimp only
    rw [if_pos hw1]
    intro w' hl
    unfold Oper.wp
    rw [dJ hop ha hcal hf hbody hx]
    refine Calls.mono (key w' hl) fun e w2 he=>?_
    obtain ⟨v,rfl,hl2,hx2⟩:=he
    exact ⟨hl2,hx2⟩
theorem x_call {f:FuncId} {fn:Func} {xs:Array Operand} {tys:Array TypeId} {vs:List Value} (ho:lops[i]?=some ⟨some d,.call ⟨.value (.func f),xs,tys⟩,ty,pos,af,none⟩) (hk:(k == some true)=false) (hd:decide (d < n)=true)
    (hf:P.funcs[f]?=some fn) (hbody:(!(fn.name == "runtime.NumGoroutine") && fn.body.isSome)=true) (hx:ll l xs.toList=some vs) {R:Value→World→World→Prop}
    (hc:∀ w,Mem w own ro→Calls P f vs.toArray w fun e w'=>∃ v,e=.returned v∧Later w w'∧R v w w')
    (h:∀ v w1 w2,Mem w1 own ro→Later w1 w2→R v w1 w2→WX P lops.toArray Q K rest n ((d,v)::l) own ((w2,aZ own)::ro)):WX P lops.toArray Q K ((k,i)::rest) n l own ro :=
  jD (fst:=#[]) (cap:=#[]) ho (bS rfl) rfl rfl hk hd rfl hf hbody hx (by simpa using hc) h
theorem nG {f:FuncId} {fn:Func} {xs:Array Operand} {tys:Array TypeId} {c:Operand} {vs:List Value} {cap:Array Value} (ho:lops[i]?=some ⟨some d,.call ⟨.value c,xs,tys⟩,ty,pos,af,none⟩) (hk:k.getD true=true) (hd:decide (d < n)=true)
    (hcal:ev l c=some (.func (.func f) #[] cap)) (hf:P.funcs[f]?=some fn) (hbody:(!(fn.name == "runtime.NumGoroutine") && fn.body.isSome)=true) (hx:ll l xs.toList=some vs) {v:Value}
    (hc:∀ w,Mem w own ro→Calls P f (vs.toArray++cap) w fun e w'=>e=.returned v∧Later w w')
    (h:WX P lops.toArray Q K rest n ((d,v)::l) own ro):WX P lops.toArray Q K ((k,i)::rest) n l own ro :=
  f0 (fst:=#[]) ho (bS rfl) rfl rfl hk hd hcal hf hbody hx (by simpa using hc) h
theorem x_clb {f:FuncId} {fn:Func} {xs:Array Operand} {tys:Array TypeId} {c:Operand} {vs:List Value} {cap:Array Value} (ho:lops[i]?=some ⟨some d,.call ⟨.value c,xs,tys⟩,ty,pos,af,none⟩) (hk:k.getD true=true) (hd:decide (d < n)=true)
    (hcal:ev l c=some (.func (.func f) #[] cap)) (hf:P.funcs[f]?=some fn) (hbody:(!(fn.name == "runtime.NumGoroutine") && fn.body.isSome)=true) (hx:ll l xs.toList=some vs) {b:Bool}
    (hc:∀ w,Mem w own ro→Calls P f (vs.toArray++cap) w fun e w'=>e=.returned (.bool b)∧Later w w')
    (h:∀ c,c=b→WX P lops.toArray Q K rest n ((d,.bool c)::l) own ro):WX P lops.toArray Q K ((k,i)::rest) n l own ro :=
  nG ho hk hd hcal hf hbody hx hc (h b rfl)
theorem ey {x:Operand} {v:Value} (hx:ev l x=some v):cv P n l own ro (.move x) ty v:=by
  intro a w o ha _ ho _
  simp [execOp,ho,ha.eval hx]
theorem gp {x:Operand} {v:Value} (hx:ev l x=some v):cv P n l own ro (.assign x) ty v:=by
  intro a w o ha _ ho _
  simp [execOp,ho,ha.eval hx]
theorem jE {c x y:Operand} {b:Bool} {v:Value} (hc:ev l c=some (.bool b)) (hv:(if b then ev l x else ev l y)=some v):cv P n l own ro (.pick c x y) ty v:=by
  intro a w o ha _ ho _
  cases b
  · simp [execOp,ho,ha.eval hc,ha.eval (by simpa using hv:ev l y=some v),asBool]
  · simp [execOp,ho,ha.eval hc,ha.eval (by simpa using hv:ev l x=some v),asBool]
theorem lp {c x:Operand} {g v:Bool} (hc:ev l c=some (.bool g)) (hx:ev l x=some (kz [(g,true)] (.bool v))):cv P n l own ro (.pick c x (.const (.bool false))) ty (.bool (g && v)):=by
  refine jE hc ?_
  cases g
  · rfl
  · simpa [kz] using hx
theorem v_or {c x:Operand} {g v:Bool} (hc:ev l c=some (.bool g)) (hx:ev l x=some (kz [(g,false)] (.bool v))):cv P n l own ro (.pick c (.const (.bool true)) x) ty (.bool (g || v)):=by
  refine jE hc ?_
  cases g
  · simpa [kz] using hx
  · rfl
theorem uO {f:FuncId} {cs:List Operand} {vs:List Value} (hx:ll l cs=some vs):cv P n l own ro (.makeFunc (.func f) #[] cs.toArray) ty (.func (.func f) #[] vs.toArray):=by
  intro a w o ha _ ho _
  have:=ha.evals hx
  simp [execOp,ho,Instr.makeFunc,← this]
theorem sS {x:Operand} {b:Bool} {t:TypeId} (hx:ev l x=some (.bool b)):cv P n l own ro (.unOp .not t x) ty (.bool (!b)):=by
  intro a w o ha _ ho _
  simp [execOp,ho,ha.eval hx,Op.unary]
theorem pV {x:Operand} {t:TypeId} {s:ByteArray} (ht:P.underlying t=some .string) (hx:ev l x=some (.string s)):cv P n l own ro (.call ⟨.builtin .len,#[x],#[t]⟩) ty (.int .i64 s.size):=by
  intro a w o ha _ ho _
  simp [execOp,ho,resolve,invoke,builtin,ha.eval hx,Builtin.len_,run_underlying ht,goInt]
theorem jF {x:Operand} {t e:TypeId} {A:Option Addr} {m c:Nat} (ht:P.underlying t=some (.slice e)) (hx:ev l x=some (.slice A m c)):cv P n l own ro (.call ⟨.builtin .len,#[x],#[t]⟩) ty (.int .i64 m):=by
  intro a w o ha _ ho _
  simp [execOp,ho,resolve,invoke,builtin,ha.eval hx,Builtin.len_,run_underlying ht,goInt]
end
end Go.PK

namespace Go.PK
open Go Go.RowKit
section
variable {P:Program} {n:Nat} {l:List (Nat×Value)} {own:List (Nat×Obj)} {ro:List au} {ty:TypeId} {x y:Operand} {t t':TypeId} {k k':IntKind} {a b:Int}
theorem v_add (hx:ev l x=some (.int k a)) (hy:ev l y=some (.int k b)):cv P n l own ro (.binOp .add t x y t') ty (.int k (k.wrap (a+b))):=by
  intro A w o ha _ ho _
  simp [execOp,ho,ha.eval hx,ha.eval hy,eqGuard,binOp,Op.intArith]
theorem v_sub (hx:ev l x=some (.int k a)) (hy:ev l y=some (.int k b)):cv P n l own ro (.binOp .sub t x y t') ty (.int k (k.wrap (a - b))):=by
  intro A w o ha _ ho _
  simp [execOp,ho,ha.eval hx,ha.eval hy,eqGuard,binOp,Op.intArith]
theorem v_mul (hx:ev l x=some (.int k a)) (hy:ev l y=some (.int k b)):cv P n l own ro (.binOp .mul t x y t') ty (.int k (k.wrap (a*b))):=by
  intro A w o ha _ ho _
  simp [execOp,ho,ha.eval hx,ha.eval hy,eqGuard,binOp,Op.intArith]
theorem v_quo (hx:ev l x=some (.int k a)) (hy:ev l y=some (.int k b)) (h0:b≠0):cv P n l own ro (.binOp .quo t x y t') ty (.int k (k.wrap (a.tdiv b))):=by
  intro A w o ha _ ho _
  simp [execOp,ho,ha.eval hx,ha.eval hy,eqGuard,binOp,Op.intDiv,h0]
theorem jG (hx:ev l x=some (.int k a)) (hy:ev l y=some (.int k b)) (h0:b≠0):cv P n l own ro (.binOp .rem t x y t') ty (.int k (a.tmod b)):=by
  intro A w o ha _ ho _
  simp [execOp,ho,ha.eval hx,ha.eval hy,eqGuard,binOp,Op.intDiv,h0]
theorem eK {n:Int} (h:-9223372036854775808≤n∧n≤9223372036854775807):IntKind.i64.wrap n=n:=by
  rw [IntKind.wrap_i64]; omega
theorem bf (hx:ev l x=some (.int .i64 a)) (hy:ev l y=some (.int .i64 b)) {c:Int} (hc:a+b=c) (h:-9223372036854775808≤c∧c≤9223372036854775807):cv P n l own ro (.binOp .add t x y t') ty (.int .i64 c):=by
  have:=v_add (P:=P) (n:=n) (own:=own) (ro:=ro) (t:=t) (t':=t') (ty:=ty) hx hy
  rwa [hc,eK h] at this
theorem dD (hx:ev l x=some (.int .i64 a)) (hy:ev l y=some (.int .i64 b)) {c:Int} (hc:a - b=c) (h:-9223372036854775808≤c∧c≤9223372036854775807):cv P n l own ro (.binOp .sub t x y t') ty (.int .i64 c):=by
  have:=v_sub (P:=P) (n:=n) (own:=own) (ro:=ro) (t:=t) (t':=t') (ty:=ty) hx hy
  rwa [hc,eK h] at this
theorem cT (hx:ev l x=some (.int .i64 a)) (hy:ev l y=some (.int .i64 b)) {c:Int} (hc:a*b=c) (h:-9223372036854775808≤c∧c≤9223372036854775807):cv P n l own ro (.binOp .mul t x y t') ty (.int .i64 c):=by
  have:=v_mul (P:=P) (n:=n) (own:=own) (ro:=ro) (t:=t) (t':=t') (ty:=ty) hx hy
  rwa [hc,eK h] at this
theorem ij (hx:ev l x=some (.int .i64 a)) (hy:ev l y=some (.int .i64 b)) (h0:b≠0) {c:Int} (hc:a.tdiv b=c) (h:-9223372036854775808≤c∧c≤9223372036854775807):cv P n l own ro (.binOp .quo t x y t') ty (.int .i64 c):=by
  have:=v_quo (P:=P) (n:=n) (own:=own) (ro:=ro) (t:=t) (t':=t') (ty:=ty) hx hy h0
  rwa [hc,eK h] at this
theorem v_lss (hx:ev l x=some (.int k a)) (hy:ev l y=some (.int k b)):cv P n l own ro (.binOp .lss t x y t') ty (.bool (decide (a < b))):=by
  intro A w o ha _ ho _
  simp [execOp,ho,ha.eval hx,ha.eval hy,eqGuard,binOp,Op.intCmp]
theorem nH (hx:ev l x=some (.int k a)) (hy:ev l y=some (.int k b)):cv P n l own ro (.binOp .leq t x y t') ty (.bool (decide (a≤b))):=by
  intro A w o ha _ ho _
  simp [execOp,ho,ha.eval hx,ha.eval hy,eqGuard,binOp,Op.intCmp]
theorem v6 (hx:ev l x=some (.int k a)) (hy:ev l y=some (.int k b)):cv P n l own ro (.binOp .gtr t x y t') ty (.bool (decide (b < a))):=by
  intro A w o ha _ ho _
  simp [execOp,ho,ha.eval hx,ha.eval hy,eqGuard,binOp,Op.intCmp]
theorem v_geq (hx:ev l x=some (.int k a)) (hy:ev l y=some (.int k b)):cv P n l own ro (.binOp .geq t x y t') ty (.bool (decide (b≤a))):=by
  intro A w o ha _ ho _
  simp [execOp,ho,ha.eval hx,ha.eval hy,eqGuard,binOp,Op.intCmp]
theorem mM (hx:ev l x=some (.int k a)) (hy:ev l y=some (.int k b)):cv P n l own ro (.binOp .eql t x y t') ty (.bool (decide (a=b))):=by
  intro A w o ha _ ho _
  simp [execOp,ho,ha.eval hx,ha.eval hy,eqGuard,binOp,Op.intCmp]
  rw [Bool.eq_iff_iff]; simp
theorem sT (hx:ev l x=some (.int k a)) (hy:ev l y=some (.int k b)):cv P n l own ro (.binOp .neq t x y t') ty (.bool (decide (a≠b))):=by
  intro A w o ha _ ho _
  simp [execOp,ho,ha.eval hx,ha.eval hy,eqGuard,binOp,Op.intCmp]
  rw [Bool.eq_iff_iff]; simp
theorem l7 {td:TypeDesc} (hs:P.underlying t=some td) (hd:P.underlying t'=some (.int k')) (hx:ev l x=some (.int k a)):cv P n l own ro (.convert t t' x) ty (.int k' (k'.wrap a)):=by
  intro A w o ha _ ho _
  simp [execOp,ho,ha.eval hx,convert,run_underlying hs,run_underlying hd,Conv.intToInt]
variable {s u:ByteArray}
theorem toList_eq {s u:ByteArray}:(s.toList == u.toList)=decide (s=u):=by
  rw [Bool.eq_iff_iff]
  simp only [beq_iff_eq,decide_eq_true_eq]
  constructor
  · intro h
    apply ByteArray.ext
    rw [ByteArray.toList_eq,ByteArray.toList_eq] at h
    exact Array.toList_inj.1 h
  · rintro rfl; rfl
theorem rk (hx:ev l x=some (.string s)) (hy:ev l y=some (.string u)):cv P n l own ro (.binOp .eql t x y t') ty (.bool (decide (s=u))):=by
  intro A w o ha _ ho _
  simp [execOp,ho,ha.eval hx,ha.eval hy,eqGuard,binOp,Op.stringOp,toList_eq]
theorem uP (hx:ev l x=some (.string s)) (hy:ev l y=some (.string u)):cv P n l own ro (.binOp .neq t x y t') ty (.bool (decide (s≠u))):=by
  intro A w o ha _ ho _
  simp [execOp,ho,ha.eval hx,ha.eval hy,eqGuard,binOp,Op.stringOp,toList_eq]
theorem cG (hx:ev l x=some (.string s)) (hy:ev l y=some (.string u)) (h:s.size+u.size≤9223372036854775807):cv P n l own ro (.binOp .add t x y t') ty (.string (s++u)):=by
  intro A w o ha _ ho _
  have:=@run_string_add_sum P w s u h
  simp [execOp,ho,ha.eval hx,ha.eval hy,eqGuard,binOp,this]
def ad (s:ByteArray) (j:Nat):UInt8:=s.data.toList.getD j 0
theorem l8 {s:ByteArray} {j:Nat} (h:j < s.size):ad s j=s[j]:=by
  have h2:j < s.data.toList.length:=by simpa using h
  unfold ad
  rw [List.getD_eq_getElem?_getD,List.getElem?_eq_getElem h2]
  rfl
theorem br {j:Nat} (ht:P.underlying t=some .string) (hx:ev l x=some (.string s)) (hy:ev l y=some (.int k (j:Nat))) (hj:j < s.size):cv P n l own ro (.index t x y) ty (.int .u8 (ad s j).toNat):=by
  intro A w o ha _ ho _
  have h2:s[j]?=some s[j]:=getElem?_pos s j hj
  rw [l8 hj]
  simp [execOp,ho,ha.eval hx,ha.eval hy,Instr.index,run_underlying ht,asIntOf,h2]
theorem l9 {p q:Bool} {w:World} (ht:P.underlying t=some .bool) (d:Nat):(Op.equalIn (d+1) t (.bool p) (.bool q)).run P w=.ok (p == q) w:=by simp [Op.equalIn,run_underlying ht]
theorem nI {p q:Bool} {w:World} (ht:P.underlying t=some .bool):(Op.equal t (.bool p) (.bool q)).run P w=.ok (p == q) w:=l9 ht 9999
theorem v_bneq {p q:Bool} (hx:ev l x=some (.bool p)) (hy:ev l y=some (.bool q)) (ht:P.underlying t=some .bool):cv P n l own ro (.binOp .neq t x y t') ty (.bool (!(p == q))):=by
  intro A w o ha _ ho _
  simp [execOp,ho,ha.eval hx,ha.eval hy,eqGuard,binOp,nI ht]
theorem v_cut {i j:Nat} {z:Operand} (ht:P.underlying t=some .string) (hx:ev l x=some (.string s)) (hy:ev l y=some (.int k (i:Nat))) (hz:ev l z=some (.int k' (j:Nat))) (hi:i≤j) (hj:j≤s.size) :
    cv P n l own ro (.slice t x (some y) (some z) none) ty (.string (s.extract i j)):=by
  intro A w o ha _ ho _
  have h:=@run_slice_string_if P w t s k k' i j ht
  rw [if_pos (by omega),if_pos (by omega)] at h
  simp only [Int.toNat_natCast] at h
  have h2:(Instr.sliceAt t (.string s) (some (.int k (i:Nat))) (some (.int k' (j:Nat))) none).run P w=.ok (.string (s.extract i j)) w:=by
    simp only [Instr.sliceAt,Sem.run_bind,run_underlying ht,Result.andThen_ok,h]
  simp [execOp,ho,ha.eval hx,ha.eval hy,ha.eval hz,h2]
theorem ja {i:Nat} (ht:P.underlying t=some .string) (hx:ev l x=some (.string s)) (hy:ev l y=some (.int k (i:Nat))) (hi:i≤s.size) :
    cv P n l own ro (.slice t x (some y) none none) ty (.string (s.extract i s.size)):=by
  intro A w o ha _ ho _
  have h2:(Instr.sliceAt t (.string s) (some (.int k (i:Nat))) none none).run P w=.ok (.string (s.extract i s.size)) w:=by
    simp [Instr.sliceAt,Instr.slice,Instr.sliceBounds,Instr.sliceBound,asIntOf,run_underlying ht,hi]
  simp [execOp,ho,ha.eval hx,ha.eval hy,h2]
theorem iy {j:Nat} (ht:P.underlying t=some .string) (hx:ev l x=some (.string s)) (hy:ev l y=some (.int k (j:Nat))) (hj:j≤s.size) :
    cv P n l own ro (.slice t x none (some y) none) ty (.string (s.extract 0 j)):=by
  intro A w o ha _ ho _
  have h2:(Instr.sliceAt t (.string s) none (some (.int k (j:Nat))) none).run P w=.ok (.string (s.extract 0 j)) w:=by
    simp [Instr.sliceAt,Instr.slice,Instr.sliceBounds,Instr.sliceBound,asIntOf,run_underlying ht,hj]
  simp [execOp,ho,ha.eval hx,ha.eval hy,h2]
theorem jH {fs:Array Field} {f:Field} {j m b off off':Nat} (ht:P.underlying t=some (.struct fs)) (hf:fs[j]?=some f) (hs:(P.info? f.type).map (·.size)=some m) (hm:m≠0) (hx:ev l x=some (.pointer (some ⟨b,off,none⟩))) (ho':off+f.offset=off') :
    cv P n l own ro (.fieldAddr t x j) ty (.pointer (some ⟨b,off',none⟩)):=by
  intro A w o ha _ ho _
  obtain ⟨inf,hi,hsz⟩:=Option.map_eq_some_iff.1 hs
  have:(Addr.mk b off none).add f.offset=⟨b,off',none⟩:=by
    unfold Addr.add
    split
    · simp <;> omega
    · simp [ho']
  simp [execOp,ho,ha.eval hx,Instr.fieldAt,run_underlying ht,hf,Instr.sureAddr,fieldPlace,sizeOf,typeInfo,hi,hsz,hm,this]
theorem ae {e:TypeId} {j m b off len cap off':Nat} (ht:P.underlying t=some (.slice e)) (hs:(P.info? e).map (·.size)=some m) (hx:ev l x=some (.slice (some ⟨b,off,none⟩) len cap)) (hy:ev l y=some (.int k (j:Nat))) (hj:j < len) (ho':off+j*m=off') :
    cv P n l own ro (.indexAddr t x y) ty (.pointer (some ⟨b,off',none⟩)):=by
  intro A w o ha _ ho _
  obtain ⟨inf,hi,hsz⟩:=Option.map_eq_some_iff.1 hs
  have:(Addr.mk b off none).add (j*m)=⟨b,off',none⟩:=by
    unfold Addr.add
    split
    · simp <;> omega
    · simp [ho']
  simp [execOp,ho,ha.eval hx,ha.eval hy,Instr.indexAt,run_underlying ht,asIntOf,sizeOf,typeInfo,hi,hsz,hj,this]
end
end Go.PK

namespace Go.PK
open Go Go.RowKit
theorem jb (b off j:Nat):(Addr.mk b off none).add j=⟨b,off+j,none⟩:=by
  unfold Addr.add
  split
  · subst_vars; rfl
  · rfl
def jy (d:TypeDesc):Bool:=match d with | .struct _ | .array _ _=>true | _=>false
theorem gh {P:Program} {w:World} {t:TypeId} {d:TypeDesc} (ht:P.underlying t=some d):(isAgg t).run P w=.ok (jy d) w:=by
  unfold isAgg jy
  rw [Sem.run_bind,run_underlying ht w]
  cases d <;> simp
theorem run_sizeOf {P:Program} {w:World} {t:TypeId} {m:Nat} (hs:(P.info? t).map (·.size)=some m):(sizeOf t).run P w=.ok m w:=by
  obtain ⟨inf,hi,hsz⟩:=Option.map_eq_some_iff.1 hs
  simp [sizeOf,typeInfo,hi,hsz]
section
variable {P:Program} {n:Nat} {l:List (Nat×Value)} {own:List (Nat×Obj)} {ro:List au} {lops:List Oper} {Q:Exit→Act→World→Prop} {K:Act→World→Prop}
  {rest:List (Option Bool×Nat)} {k:Option Bool} {i d:Nat} {op:Op} {ty:TypeId} {pos:String} {af:Array Edge} {x y:Operand} {t:TypeId} {td:TypeDesc} {b off:Nat}
def At (own:List (Nat×Obj)) (ro:List au) (b off:Nat) (v:Value):Prop:=∀ w,Mem w own ro→w.cell? ⟨b,off,none⟩=some v
theorem at_own {cs:Array Value} {e:TypeId} {fz:Nat×Nat} {v:Value} (hb:(b,Obj.cells cs e fz)∈own) (hv:cs[off]?=some v):At own ro b off v :=
  fun w hw=>(hw.cell_own hb off).trans hv
theorem ab {vs:List Value} {e:TypeId} {fz:Nat×Nat} {v:Value} (hb:(b,Obj.cells vs.toArray e fz)∈own) (hv:vs[off]?=some v):At own ro b off v :=
  at_own hb (by simpa using hv)
theorem an {s:au} {v:Value} (hs:s∈ro) (hd:s.2 b) (hc:s.1.cell? ⟨b,off,none⟩=some v):At own ro b off v :=
  fun w hw=>(hw.cell_ro hs (p:=⟨b,off,none⟩) hd (em (p:=⟨b,off,none⟩) hc)).trans hc
theorem a6 {v:Value} (ht:P.underlying t=some td) (hd:jy td=false) (hx:ev l x=some (.pointer (some ⟨b,off,none⟩))) (hc:At own ro b off v):cv P n l own ro (.load t x) ty v:=by
  intro A w o ha hw ho _
  simp [execOp,ho,ha.eval hx,Instr.loadAt,Instr.sureAddr,loadVar,gh ht,hd,hc w hw]
theorem bh {vs:List Value} (ht:P.underlying t=some td) (hd:jy td=true) (hs:(P.info? t).map (·.size)=some vs.length) (hx:ev l x=some (.pointer (some ⟨b,off,none⟩))) (hc:∀ j (hj:j < vs.length),At own ro b (off+j) vs[j]) :
    cv P n l own ro (.load t x) ty (.agg vs.toArray):=by
  intro A w o ha hw ho _
  have hl:(loadCells ⟨b,off,none⟩ vs.length).run P w=.ok vs.toArray w:=run_loadCells_list (P:=P) w ⟨b,off,none⟩ vs (fun j v hv=>by
    rw [jb]
    obtain ⟨hj,rfl⟩:=List.getElem?_eq_some_iff.1 hv
    exact hc j hj w hw)
  simp [execOp,ho,ha.eval hx,Instr.loadAt,Instr.sureAddr,loadVar,gh ht,hd,run_sizeOf hs,hl]
theorem bQ {cs:Array Value} {e:TypeId} {fz:Nat×Nat} (ht:P.underlying t=some td) (hd:jy td=true) (hx:ev l x=some (.pointer (some ⟨b,0,none⟩))) (hb:(b,Obj.cells cs e fz)∈own) (hs:(P.info? t).map (·.size)=some cs.size) :
    cv P n l own ro (.load t x) ty (.agg cs):=by
  intro A w o ha hw ho _
  have:=run_loadVar_row w b e t cs fz td (hw.own_at _ hb) ht (by cases td <;> simp_all [jy]) hs
  simp [execOp,ho,ha.eval hx,Instr.loadAt,Instr.sureAddr,this]
theorem nJ {o:Oper} (ho:lops[i]?=some o) (hgo:Go_ lops n l o) (hd0:o.dst=some d) (hk:(k == some true)=false) (hd:decide (d < n)=true) {ob:Obj} {f:Nat→Value}
    (hr:∀ a w,FH n l a→Mem w own ro→(execOp a.eval o).run P w=.ok (.value (f w.heap.size)) (w.alloc ob))
    (h:∀ b,WX P lops.toArray Q K rest n ((d,f b)::l) ((b,ob)::own) ro):WX P lops.toArray Q K ((k,i)::rest) n l own ro:=by
  intro a w ha hw
  have hd':d < n:=of_decide_eq_true hd
  have hw1:=hgo a ha
  simp only [gW,List.getElem?_toArray,ho]
  have key:∀ w',Later w w'→gW P lops.toArray Q K rest (a.put o.dst (f w'.heap.size)) (w'.alloc ob):=fun w' hl=>by
    rw [hd0]
    exact h _ _ _ (ha.put _ hd') ((hw.later hl).new ob)
  cases k with
  | none =>
    intro w' hl
    rw [if_pos hw1]
    unfold Oper.wp
    rw [hr a w' ha (hw.later hl)]
    exact key w' hl
  | some b =>
    have:b=false:=by cases b <;> simp_all
    subst this
    dsimp only
    rw [if_pos hw1]
    intro w' hl
    unfold Oper.wp
    rw [hr a w' ha (hw.later hl)]
    exact ⟨Later.alloc _ _,key w' hl⟩
theorem cw {w:World} {e:TypeId} {z:Value} (hz:(P.info? e).bind (·.zero)=some z):(zeroValue e).run P w=.ok z w:=by
  cases hi:P.info? e with
  | none=>simp [hi] at hz
  | some inf =>
    have:inf.zero=some z:=by simpa [hi] using hz
    simp [zeroValue,typeInfo,hi,this]
theorem x_alloc {z:Value} {e:TypeId} (ho:lops[i]?=some ⟨some d,.alloc e,ty,pos,af,none⟩) (hk:(k == some true)=false) (hd:decide (d < n)=true)
    (hz:(P.info? e).bind (·.zero)=some z)
    (h:∀ b,WX P lops.toArray Q K rest n ((d,.pointer (some ⟨b,0,none⟩))::l) ((b,.cells z.cells e)::own) ro):WX P lops.toArray Q K ((k,i)::rest) n l own ro :=
  nJ (f:=fun b=>.pointer (some ⟨b,0,none⟩)) ho (bS rfl) rfl hk hd (fun a w ha hw=>by
    simp [execOp,Instr.alloc,cw hz,newVar,newRow]) h
theorem x_box {v:Value} {e:TypeId} (ho:lops[i]?=some ⟨some d,.box e x,ty,pos,af,none⟩) (hk:(k == some true)=false) (hd:decide (d < n)=true) (hx:ev l x=some v)
    (h:∀ b,WX P lops.toArray Q K rest n ((d,.pointer (some ⟨b,0,none⟩))::l) ((b,.cells v.cells e)::own) ro):WX P lops.toArray Q K ((k,i)::rest) n l own ro :=
  nJ (f:=fun b=>.pointer (some ⟨b,0,none⟩)) ho (bS rfl) rfl hk hd (fun a w ha hw=>by
    simp [execOp,Instr.box,newVar,newRow,ha.eval hx]) h
def evp (l:List (Nat×Value)):List (Nat×Operand)→Option (List (Nat×Value))
  | []=>some []
  | (j,x)::r=>match ev l x,evp l r with
    | some v,some vs=>some ((j,v)::vs)
    | _,_=>none
theorem FH.evps {a:Act} (h:FH n l a):∀ {r:List (Nat×Operand)} {vs:List (Nat×Value)},evp l r=some vs→r.map (fun p=>(p.1,a.eval p.2))=vs
  | [],vs,hx=>by simp [evp] at hx; simp [hx]
  | (j,x)::r,vs,hx=>by
    simp only [evp] at hx
    split at hx
    · rename_i v us hv hus
      cases hx
      simp [h.eval hv,h.evps hus]
    · cases hx
theorem v_build {parts:List (Nat×Operand)} {vs:List (Nat×Value)} {fs:Array Field} {z:Value} {cs:Array Value} {places:Array (Nat×Nat)} (ht:P.underlying t=some (.struct fs)) (hz:(P.info? t).bind (·.zero)=some z)
    (hp:fs.toList.map (fun f=>((P.info? f.type).map fun j=>(f.offset,j.size)))=places.toList.map some) (hx:evp l parts=some vs) (hf:Instr.fill (places[·]?) z.cells vs=some cs) :
    cv P n l own ro (.build t parts.toArray) ty (.agg cs):=by
  intro A w o ha hw ho _
  have hm:∀ (fs:List Field) (ps:List (Nat×Nat)),fs.map (fun f=>((P.info? f.type).map fun j=>(f.offset,j.size)))=ps.map some →
      (fs.mapM fun f=>do pure (f.offset,← sizeOf f.type):Sem (List (Nat×Nat))).run P w=.ok ps w:=by
    intro fs
    induction fs with
    | nil=>intro ps hps; cases ps with
      | nil=>simp
      | cons _ _=>simp at hps
    | cons f fs ih=>intro ps hps; cases ps with
      | nil=>simp at hps
      | cons p ps =>
        simp only [List.map_cons,List.cons.injEq] at hps
        obtain ⟨h1,h2⟩:=hps
        cases hi:P.info? f.type with
        | none=>simp [hi] at h1
        | some inf =>
          simp [hi] at h1
          have ih2:=ih ps h2
          simp only [List.mapM_cons,Sem.run_bind,run_sizeOf (P:=P) (w:=w) (t:=f.type) (m:=inf.size) (by simp [hi]),Result.andThen_ok,Sem.run_pure,h1]
          rw [ih2]
          simp
  have hm2:(fs.mapM fun f=>do pure (f.offset,← sizeOf f.type):Sem (Array (Nat×Nat))).run P w=.ok places w:=by
    rw [Array.mapM_eq_mapM_toList]
    have:=hm fs.toList places.toList hp
    simp only [Sem.run_bind,map_eq_pure_bind,this,Result.andThen_ok,Sem.run_pure]
  have hparts:(parts.toArray.map fun (i,x)=>(i,A.eval x)).toList=vs:=by
    rw [Array.toList_map]; exact ha.evps hx
  simp only [execOp,ho,Instr.build,Sem.run_bind,cw hz,Result.andThen_ok,run_underlying ht,hm2,hparts,hf,Sem.run_pure]
theorem rl {parts:List (Nat×Operand)} {vs:List (Nat×Value)} {e:TypeId} {z:Value} {cs:Array Value} {len m:Nat} (ho:lops[i]?=some ⟨some d,.buildSlice t len parts.toArray,ty,pos,af,none⟩) (hk:(k == some true)=false) (hd:decide (d < n)=true)
    (ht:P.underlying t=some (.slice e)) (hs:(P.info? e).map (·.size)=some m) (hz:(P.info? e).bind (·.zero)=some z) (hlen:(decide (len*m≤2 ^ 24) && decide (0 < len*m))=true) (hx:evp l parts=some vs)
    (hf:Instr.fill (fun j=>some (j*m,m)) ((Array.range (len*m)).map (z.cells[·%z.cells.size]!)) vs=some cs)
    (h:∀ b,WX P lops.toArray Q K rest n ((d,.slice (some ⟨b,0,none⟩) len len)::l) ((b,.cells cs e)::own) ro):WX P lops.toArray Q K ((k,i)::rest) n l own ro :=
  nJ (f:=fun b=>.slice (some ⟨b,0,none⟩) len len) ho (bS rfl) rfl hk hd (fun A w ha hw=>by
    have hparts:(parts.toArray.map fun (i,x)=>(i,A.eval x)).toList=vs:=by
      rw [Array.toList_map]; exact ha.evps hx
    simp only [Bool.and_eq_true,decide_eq_true_eq] at hlen
    have h1:¬ len*m > 2 ^ 24:=by omega
    have h2:¬ len*m=0:=by omega
    simp only [execOp,Instr.buildSlice,Sem.run_bind,run_underlying ht,Result.andThen_ok,run_sizeOf hs,h1,h2,if_false,cw hz,Sem.run_pure,hparts,hf,newRow]
    simp) h
theorem pE {w:World} {g:Nat} {cs cs':Array Value} {e:TypeId} (h:w.heap[g]?=some (.cells cs e (0,0))):Turned w (w.setRow g cs') g (.cells cs' e (0,0)) where
  os:=rfl
  tape:=rfl
  output:=rfl
  size:=by simp [World.setRow]
  at_:=setRow_heap w g cs cs' e (0,0) h
  other:=fun k hk=>by
    simp only [World.setRow,Array.getElem?_modify]
    rw [if_neg (fun e=>hk e.symm)]
theorem lq {o:Oper} {v:Value} {l1 l2:List (Nat×Obj)} {cs:List Value} {e:TypeId} {m:Nat} (ho:lops[i]?=some o) (hgo:Go_ lops n l o) (hop:o.op=.store t x y) (hd0:o.dst=none) (hx:ev l x=some (.pointer (some ⟨b,off,none⟩))) (hy:ev l y=some v)
    (hs:(P.info? t).map (·.size)=some m) (hm:(decide (v.cells.size=m) && v.cells.toList.all (fun u=>u.oneCell'))=true) (hb:off+m≤cs.length) (hown:own=l1++(b,.cells cs.toArray e (0,0))::l2)
    (h:WX P lops.toArray Q K rest n l (l1++(b,.cells (cs.take off++v.cells.toList++cs.drop (off+m)).toArray e (0,0))::l2) ro):WX P lops.toArray Q K ((none,i)::rest) n l own ro:=by
  subst hown
  intro a w ha hw
  simp only [Bool.and_eq_true,decide_eq_true_eq,List.all_eq_true] at hm
  obtain ⟨hm,h1⟩:=hm
  have hw1:=hgo a ha
  simp only [gW,List.getElem?_toArray,ho]
  intro w' hl
  rw [if_pos hw1]
  have hM:=hw.later hl
  have hg:w'.heap[b]?=some (.cells cs.toArray e (0,0)):=hM.own_at (b,_) (by simp)
  have hlen:v.cells.toList.length=m:=by simpa using hm
  have hst:=run_storeCells_at (P:=P) b off e v.cells.toList 0 cs.toArray w' hg (by simp only [List.size_toArray]; omega) h1
  have hst2:(storeVar t ⟨b,off,none⟩ v).run P w'=.ok () (w'.setRow b (cs.take off++v.cells.toList++cs.drop (off+m)).toArray):=by
    simp only [storeVar,Sem.run_bind,run_sizeOf hs,Result.andThen_ok,hm,ne_eq,not_true,if_false,hst,Nat.add_zero,hlen]
  unfold Oper.wp
  have hrun:(execOp a.eval o).run P w'=.ok .skip (w'.setRow b (cs.take off++v.cells.toList++cs.drop (off+m)).toArray):=by
    simp only [execOp,hop,ha.eval hx,ha.eval hy,Instr.storeAt,Instr.sureAddr,Sem.run_bind,Sem.run_pure,Result.andThen_ok,hst2]
  rw [hrun]
  show gW P lops.toArray Q K rest (a.put o.dst undef) _
  rw [hd0]
  exact h a _ ha (hM.turn (pE hg))
theorem aF {v:Value} (l1:List (Nat×Obj)) {l2:List (Nat×Obj)} {cs:List Value} {e:TypeId} {m:Nat} (ho:lops[i]?=some ⟨none,.store t x y,ty,pos,af,none⟩) (hx:ev l x=some (.pointer (some ⟨b,off,none⟩))) (hy:ev l y=some v)
    (hown:own=l1++(b,.cells cs.toArray e (0,0))::l2) (hs:(P.info? t).map (·.size)=some m) (hm:(decide (v.cells.size=m) && v.cells.toList.all (fun u=>u.oneCell'))=true) (hb:off+m≤cs.length)
    (h:WX P lops.toArray Q K rest n l (l1++(b,.cells (cs.take off++v.cells.toList++cs.drop (off+m)).toArray e (0,0))::l2) ro):WX P lops.toArray Q K ((none,i)::rest) n l own ro :=
  lq ho (bS rfl) rfl rfl hx hy hs hm hb hown h
theorem bn {e:TypeId} {N j m b off off':Nat} {kk:IntKind} (ht:P.underlying t=some (.array N e)) (hs:(P.info? e).map (·.size)=some m) (hx:ev l x=some (.pointer (some ⟨b,off,none⟩))) (hy:ev l y=some (.int kk (j:Nat))) (hj:j < N) (ho':off+j*m=off') :
    cv P n l own ro (.indexAddr t x y) ty (.pointer (some ⟨b,off',none⟩)):=by
  intro A w o ha _ ho _
  obtain ⟨inf,hi,hsz⟩:=Option.map_eq_some_iff.1 hs
  have:(Addr.mk b off none).add (j*m)=⟨b,off',none⟩:=by rw [jb,ho']
  simp [execOp,ho,ha.eval hx,ha.eval hy,Instr.indexAt,run_underlying ht,asIntOf,Instr.sureAddr,sizeOf,typeInfo,hi,hsz,hj,this]
theorem bV {v:Value} (l1:List (Nat×Obj)) {l2:List (Nat×Obj)} {cs:Array Value} {e:TypeId} {m:Nat} (ho:lops[i]?=some ⟨none,.store t x y,ty,pos,af,none⟩) (hx:ev l x=some (.pointer (some ⟨b,0,none⟩))) (hy:ev l y=some v)
    (hown:own=l1++(b,.cells cs e (0,0))::l2) (hs:(P.info? t).map (·.size)=some m) (hm:(decide (v.cells.size=m) && v.cells.toList.all (fun u=>u.oneCell'))=true) (hb:cs.size=m)
    (h:WX P lops.toArray Q K rest n l (l1++(b,.cells v.cells e (0,0))::l2) ro):WX P lops.toArray Q K ((none,i)::rest) n l own ro:=by
  have hsz:v.cells.size=m:=by simp only [Bool.and_eq_true,decide_eq_true_eq] at hm; exact hm.1
  refine lq (cs:=cs.toList) ho (bS rfl) rfl rfl hx hy hs hm (by simp [hb]) (by simpa using hown) ?_
  have e1:(cs.toList.take 0++v.cells.toList++cs.toList.drop (0+m)).toArray=v.cells:=by
    rw [List.take_zero,List.drop_eq_nil_of_le (by simp [hb])]
    simp
  rw [e1]
  exact h
theorem pW {e:TypeId} {A:Option Addr} {len cap j m:Nat} {kk:IntKind} (ht:P.underlying t=some (.slice e)) (hs:(P.info? e).map (·.size)=some m) (hx:ev l x=some (.slice A len cap)) (hy:ev l y=some (.int kk (j:Nat))) (hj:j≤cap) :
    cv P n l own ro (.slice t x none (some y) none) ty (.slice A j cap):=by
  intro a w o ha hw ho _
  have h2:(Instr.sliceAt t (.slice A len cap) none (some (.int kk (j:Nat))) none).run P w=.ok (.slice A j cap) w:=by
    have hA:(if cap=0 then A else A.map (fun a=>a.add (0*m)))=A:=by
      split
      · rfl
      · cases A with
        | none=>rfl
        | some a=>simp [Addr.add]
    simp [Instr.sliceAt,Instr.slice,Instr.sliceBounds,Instr.sliceBound,asIntOf,run_underlying ht,hj,run_sizeOf hs]
    simpa using hA
  simp [execOp,ho,ha.eval hx,ha.eval hy,h2]
end
end Go.PK

namespace Go.PK
open Go Go.RowKit
def nK:Nat→List Value→List (Nat×Value)
  | _,[]=>[]
  | i,v::vs=>(i,v)::nK (i+1) vs
theorem f4:∀ (vs:List Value) (i s:Nat) (v:Value),(nK i vs).lookup s=some v→i≤s∧vs[s - i]?=some v
  | [],_,_,_,h=>by simp [nK] at h
  | u::us,i,s,v,h=>by
    simp only [nK,List.lookup_cons] at h
    by_cases hs:s=i
    · subst hs; simp at h; simp [h]
    · have:(s == i)=false:=by simpa using hs
      simp only [this] at h
      obtain ⟨h1,h2⟩:=f4 us (i+1) s v h
      refine ⟨by omega,?_⟩
      rw [show s - i=(s - (i+1))+1 by omega]
      simpa using h2
section
variable {P:Program} {n:Nat} {l:List (Nat×Value)} {own:List (Nat×Obj)} {ro:List au} {Q:Exit→Act→World→Prop} {K:Act→World→Prop} {R:Ending→World→Prop} {fn:Func}
theorem enter {f:FuncId} {c:Code} {vs:List Value} {w:World} (hf:P.funcs[f]?=some fn) (hb:fn.body=some c) (hn:fn.ntmps=n) (hv:decide (vs.length≤n)=true)
    (h:W P c (bodyPost P fn R) n (nK 0 vs) [] [(w,fun _=>True)]):Calls P f vs.toArray w R:=by
  have hv':=of_decide_eq_true hv
  refine calls_of_wp hf hb (h _ w ⟨by simp [hn]; omega,rfl,fun s v hs=>?_⟩ (Mem.init w))
  obtain ⟨_,h2⟩:=f4 _ _ _ _ hs
  simp only [Nat.sub_zero] at h2
  have hlt:s < vs.length:=(List.getElem?_eq_some_iff.1 h2).1
  show (vs.toArray++_)[s]?=some v
  rw [Array.getElem?_append_left (by simpa using hlt)]
  simpa using h2
theorem t_ret {K:Act→World→Prop} (h:S (Q .ret) n l own ro):S (Exit.then K Q .ret) n l own ro:=h
theorem t_exit {K:Act→World→Prop} {id:Nat} (h:S (Q (.exit id)) n l own ro):S (Exit.then K Q (.exit id)) n l own ro:=h
theorem b_ret {id:Nat} (h:S (Q .ret) n l own ro):S (Exit.inBlock id Q .ret) n l own ro:=h
theorem b_norm {id:Nat} (h:S (Q .normal) n l own ro):S (Exit.inBlock id Q .normal) n l own ro:=h
theorem b_hit {id:Nat} (h:S (Q .normal) n l own ro):S (Exit.inBlock id Q (.exit id)) n l own ro:=fun a w ha hw=>by
  simp only [Exit.inBlock,if_true]; exact h a w ha hw
theorem aI {σ:Type} {I:σ→Prop} {L:σ→List (Nat×Value)} {O:σ→List (Nat×Obj)} {Rr:σ→List au} {μ:σ→Nat} {x:σ} (x':σ) (hI:I x') (hlt:μ x' < μ x) (hs:i7 (L x') l) (hm:∀ w,Mem w own ro→Mem w (O x') (Rr x')) :
    S (Exit.then (fun a w=>∃ x',I x'∧μ x' < μ x∧FH n (L x') a∧Mem w (O x') (Rr x')) Q .normal) n l own ro :=
  fun a w ha hw=>⟨x',hI,hlt,ha.sub hs,hm w hw⟩
theorem cK {σ:Type} {x y:Code} (I:σ→Prop) (L:σ→List (Nat×Value)) (O:σ→List (Nat×Obj)) (Rr:σ→List au)
    (h1:W P x (Exit.then (fun a w=>∃ x',I x'∧FH n (L x') a∧Mem w (O x') (Rr x')) Q) n l own ro) (h2:∀ x',I x'→W P y Q n (L x') (O x') (Rr x')):W P (.seq x y) Q n l own ro :=
  fun a w ha hw=>wp_seq (wp_mono (h1 a w ha hw) fun e a' w' hq=>by
    cases e with
    | normal=>obtain ⟨x',h0,h3,h4⟩:=hq; exact h2 x' h0 a' w' h3 h4
    | exit _=>exact hq
    | goto _=>exact hq
    | ret=>exact hq
    | panic _=>exact hq
    | outgrown=>exact hq)
theorem cr {σ:Type} {I:σ→Prop} {L:σ→List (Nat×Value)} {O:σ→List (Nat×Obj)} {Rr:σ→List au} (x':σ) (hI:I x') (hs:i7 (L x') l) (hm:∀ w,Mem w own ro→Mem w (O x') (Rr x')) :
    S (Exit.then (fun a w=>∃ x',I x'∧FH n (L x') a∧Mem w (O x') (Rr x')) Q .normal) n l own ro :=
  fun a w ha hw=>⟨x',hI,ha.sub hs,hm w hw⟩
theorem aB {L':List (Nat×Value)} {O':List (Nat×Obj)} {R':List au} (hs:i7 L' l) (hm:∀ w,Mem w own ro→Mem w O' R'):∀ a w,FH n l a→Mem w own ro→FH n L' a∧Mem w O' R' :=
  fun a w ha hw=>⟨ha.sub hs,hm w hw⟩
theorem aw {t:Tmp} {v:Value} (hr:fn.results=#[.tmp t]) (hv:l.lookup t=some v) (h:∀ w',Mem w' own ro→R (.returned v) w'):S (bodyPost P fn R .ret) n l own ro:=by
  intro a w ha hw
  refine ⟨ha.df,v,?_,h w hw⟩
  have:=ha.at_ t v hv
  rw [results_tmp hr]
  simp [Array.getD_eq_getD_getElem?,this]
theorem cN {t u:Tmp} {v v':Value} (hr:fn.results=#[.tmp t,.tmp u]) (hv:l.lookup t=some v) (hv':l.lookup u=some v') (h:∀ w',Mem w' own ro→R (.returned (.tuple #[v,v'])) w'):S (bodyPost P fn R .ret) n l own ro:=by
  intro a w ha hw
  refine ⟨ha.df,_,?_,h w hw⟩
  rw [results_tmp2 hr]
  simp [Array.getD_eq_getD_getElem?,ha.at_ t v hv,ha.at_ u v' hv']
theorem dF {t u s:Tmp} {v v' v'':Value} (hr:fn.results=#[.tmp t,.tmp u,.tmp s]) (hv:l.lookup t=some v) (hv':l.lookup u=some v') (hv'':l.lookup s=some v'') (h:∀ w',Mem w' own ro→R (.returned (.tuple #[v,v',v''])) w'):S (bodyPost P fn R .ret) n l own ro:=by
  intro a w ha hw
  refine ⟨ha.df,_,?_,h w hw⟩
  rw [results_tmp3 hr]
  simp [Array.getD_eq_getD_getElem?,ha.at_ t v hv,ha.at_ u v' hv',ha.at_ s v'' hv'']
theorem sU (hr:fn.results=#[]) (h:∀ w',Mem w' own ro→R (.returned (.tuple #[])) w'):S (bodyPost P fn R .normal) n l own ro:=by
  intro a w ha hw
  exact ⟨ha.df,_,results_none hr _ _ _,h w hw⟩
theorem sV {t:Tmp} {ty:TypeId} {td:TypeDesc} {b:Nat} {cs:Array Value} {e:TypeId} {fz:Nat×Nat} (hr:fn.results=#[.cell t ty]) (hv:l.lookup t=some (.pointer (some ⟨b,0,none⟩))) (hb:(b,Obj.cells cs e fz)∈own)
    (ht:P.underlying ty=some td) (hd:jy td=true) (hs:(P.info? ty).map (·.size)=some cs.size) (h:∀ w',Mem w' own ro→R (.returned (.agg cs)) w'):S (bodyPost P fn R .ret) n l own ro:=by
  intro a w ha hw
  refine ⟨ha.df,_,?_,h w hw⟩
  exact results_cell_row hr a.tmps w b e cs fz td (by simp [Array.getD_eq_getD_getElem?,ha.at_ t _ hv]) (hw.own_at _ hb) ht (by cases td <;> simp_all [jy]) hs
end
end Go.PK

namespace Go.PK
open Go Go.RowKit
structure Ty (α:Type) where
  size:Nat
  rd:(Nat→Prop)→World→List Value→α→Prop
  len:∀ {D w cs x},rd D w cs x→cs.length=size
  keep:∀ {D D':Nat→Prop} {w w' cs x},rd D w cs x→(∀ k,D k→k < w.heap.size→D' k∧w'.heap[k]?=w.heap[k]?)→rd D' w' cs x
def aU (D D':Nat→Prop) (w w':World):Prop:=∀ k,D k→k < w.heap.size→D' k∧w'.heap[k]?=w.heap[k]?
theorem aU.later {D:Nat→Prop} {w w':World} (h:Later w w'):aU D D w w':=fun k hk hlt=>⟨hk,h.block k hlt⟩
theorem aU.all {D:Nat→Prop} {w w':World} (h:Later w w'):aU D (fun _=>True) w w':=fun k hk hlt=>⟨trivial,h.block k hlt⟩
theorem aU.snap {own:List (Nat×Obj)} {ro:List au} {w:World} {s:au} {D':Nat→Prop} (h:Mem w own ro) (hs:s∈ro) (hd:∀ k,s.2 k→k < s.1.heap.size→D' k):aU s.2 D' s.1 w :=
  fun k hk hlt=>⟨hd k hk hlt,h.ro_at s hs k hk hlt⟩
def aa {α:Type} (T:Ty α) (D:Nat→Prop) (w:World) (v:Value) (xs:List α):Prop :=
  ∃ A c,v=.slice A xs.length c∧xs.length≤c∧xs.length≤9223372036854775807 ∧
    (0 < xs.length→∃ b off,A=some ⟨b,off,none⟩∧D b∧b < w.heap.size ∧
      ∀ j (hj:j < xs.length),∃ cs,(∀ i (hi:i < cs.length),w.cell? ⟨b,off+j*T.size+i,none⟩=some cs[i])∧T.rd D w cs xs[j])
theorem gi {w w':World} {b off:Nat} (h:w'.heap[b]?=w.heap[b]?):w'.cell? ⟨b,off,none⟩=w.cell? ⟨b,off,none⟩:=World.cell?_of_block (w:=w) h
theorem aa.keep {α:Type} {T:Ty α} {D D':Nat→Prop} {w w':World} {v:Value} {xs:List α} (h:aa T D w v xs) (hk:aU D D' w w'):aa T D' w' v xs:=by
  obtain ⟨A,c,hv,h1,h2,h3⟩:=h
  refine ⟨A,c,hv,h1,h2,fun hl=>?_⟩
  obtain ⟨b,off,hA,hD,hb,hc⟩:=h3 hl
  obtain ⟨hD',hblk⟩:=hk b hD hb
  refine ⟨b,off,hA,hD',?_,fun j hj=>?_⟩
  · obtain ⟨cs,h4,h5⟩:=hc 0 hl
    have hh:∃ o,w.heap[b]?=some o:=⟨_,Array.getElem?_eq_getElem hb⟩
    obtain ⟨o,ho⟩:=hh
    exact dO (hblk.trans ho)
  · obtain ⟨cs,h4,h5⟩:=hc j hj
    exact ⟨cs,fun i hi=>(gi hblk).trans (h4 i hi),T.keep h5 hk⟩
theorem aa.take {α:Type} {T:Ty α} {D:Nat→Prop} {w:World} {A:Option Addr} {c:Nat} {xs:List α} (j:Nat) (hj:j≤xs.length) (h:aa T D w (.slice A xs.length c) xs):aa T D w (.slice A j c) (xs.take j):=by
  obtain ⟨A',c',hv,h1,h2,h3⟩:=h
  injection hv with e1 e2 e3
  subst e1 e3
  have hl:(xs.take j).length=j:=by simp; omega
  refine ⟨A,c,by rw [hl],by omega,by omega,fun h0=>?_⟩
  rw [hl] at h0
  obtain ⟨b,off,hA,hD,hb,hc⟩:=h3 (by omega)
  refine ⟨b,off,hA,hD,hb,fun i hi=>?_⟩
  rw [hl] at hi
  obtain ⟨cs,h4,h5⟩:=hc i (by omega)
  exact ⟨cs,h4,by rw [List.getElem_take]; exact h5⟩
def iw (s:ByteArray):Prop:=s.size≤9223372036854775807
def aV:Ty ByteArray where
  size:=1
  rd:=fun _ _ cs x=>cs=[.string x]∧iw x
  len:=fun h=>by rw [h.1]; rfl
  keep:=fun h _=>h
def aO {α:Type} (T:Ty α):Ty (List α) where
  size:=1
  rd:=fun D w cs xs=>∃ v,cs=[v]∧aa T D w v xs
  len:=fun ⟨v,h,_⟩=>by rw [h]; rfl
  keep:=fun ⟨v,h,h2⟩ hk=>⟨v,h,h2.keep hk⟩
structure Sb where
  code:UInt8
  text:ByteArray
deriving DecidableEq
def tySb:Ty Sb where
  size:=2
  rd:=fun _ _ cs x=>cs=[.int .u8 x.code.toNat,.string x.text]∧iw x.text
  len:=fun h=>by rw [h.1]; rfl
  keep:=fun h _=>h
structure Fl where
  tag:ByteArray
  ind:ByteArray
  data:ByteArray
  subs:List Sb
deriving DecidableEq
def Fl.ok (f:Fl):Prop:=iw f.tag∧iw f.ind∧iw f.data
def tyFl:Ty Fl where
  size:=4
  rd:=fun D w cs x=>∃ v,cs=[.string x.tag,.string x.ind,.string x.data,v]∧x.ok∧aa tySb D w v x.subs
  len:=fun ⟨v,h,_⟩=>by rw [h]; rfl
  keep:=fun ⟨v,h,h2,h3⟩ hk=>⟨v,h,h2,h3.keep hk⟩
structure Rl where
  tag:ByteArray
  must:Bool
  once:Bool
  i0:ByteArray
  i1:ByteArray
  codes:ByteArray
  single:ByteArray
deriving DecidableEq
def Rl.ok (r:Rl):Prop:=iw r.tag∧iw r.i0∧iw r.i1∧iw r.codes∧iw r.single
def Rl.cells (r:Rl):List Value:=[.string r.tag,.bool r.must,.bool r.once,.string r.i0,.string r.i1,.string r.codes,.string r.single]
end Go.PK

namespace Go.PK
open Go Go.RowKit
theorem wc (a m:Int) (h:0 < m):-m < a.tmod m∧a.tmod m < m :=
  ⟨by have:=Int.lt_tmod_of_pos a h; omega,Int.tmod_lt_of_pos a h⟩
theorem tmod_mod (a m:Int) (h:0 < m):(a.tmod m+m).tmod m=a%m:=by
  have h1:=wc a m h
  rw [Int.tmod_eq_emod_of_nonneg (by omega),Int.add_emod_right]
  have h2:=Int.mul_tdiv_add_tmod a m
  conv=>rhs; rw [← h2]
  rw [Int.mul_add_emod_self_left]
def pre (s p:ByteArray):Bool:=decide (p.size≤s.size∧s.extract 0 p.size=p)
theorem nL {t:ByteArray} {a b j:Nat} (h:a+j < b) (hb:b≤t.size):ad (t.extract a b) j=ad t (a+j):=by
  have h1:j < (t.extract a b).size:=by rw [ByteArray.size_extract]; omega
  rw [l8 h1,l8 (by omega),ByteArray.getElem_extract]
def okM (p t:ByteArray) (k:Nat):Prop:=ad t k=ad p k∨ad p k=120∧48≤(ad t k).toNat∧(ad t k).toNat≤57
instance (p t:ByteArray) (k:Nat):Decidable (okM p t k):=by unfold okM; infer_instance
def mtc (p t:ByteArray):Bool:=decide (p.size=t.size∧∀ k,k < t.size→okM p t k)
def pH {α:Type} (p:α→Bool) (xs:List α):Int:=match xs.findIdx? p with | some i=>(i:Nat) | none=>-1
theorem nj {α:Type} {p:α→Bool} {xs:List α} {k:Nat} (hk:k < xs.length) (h:p xs[k]=true) (hn:∀ j (hj:j < xs.length),j < k→p xs[j]=false):pH p xs=k:=by
  unfold pH
  have:xs.findIdx? p=some k:=by
    rw [List.findIdx?_eq_some_iff_getElem]
    exact ⟨hk,h,fun j hj=>by rw [hn j (by omega) hj]; exact Bool.false_ne_true⟩
  rw [this]
theorem j3 {α:Type} {p:α→Bool} {xs:List α} (hn:∀ j (hj:j < xs.length),p xs[j]=false):pH p xs=-1:=by
  unfold pH
  have:xs.findIdx? p=none:=by
    rw [List.findIdx?_eq_none_iff]
    intro x hx
    obtain ⟨j,hj,rfl⟩:=List.mem_iff_getElem.1 hx
    exact hn j hj
  rw [this]
theorem wd {α:Type} (p:α→Bool) (xs:List α):(0≤pH p xs)↔xs.any p=true:=by
  unfold pH
  cases h:xs.findIdx? p with
  | none =>
    simp only [List.any_eq_true]
    rw [List.findIdx?_eq_none_iff] at h
    constructor
    · intro h0; omega
    · rintro ⟨x,hx,hp⟩; rw [h x hx] at hp; cases hp
  | some i =>
    simp only [List.any_eq_true]
    obtain ⟨hi,hp,_⟩:=List.findIdx?_eq_some_iff_getElem.1 h
    exact ⟨fun _=>⟨_,List.getElem_mem hi,hp⟩,fun _=>by omega⟩
theorem ma {n k:Nat} {p:(j:Nat)→j < n→Prop} (h:∀ j (hj:j < n),j < k→p j hj) (hk:∀ hj:k < n,p k hj):∀ j (hj:j < n),j < k+1→p j hj:=fun j hj h1=>by
  rcases Nat.lt_succ_iff_lt_or_eq.1 h1 with h2 | rfl
  · exact h j hj h2
  · exact hk hj
def plC (v:Value) (n:Int) (r:Rl):List Value:=[v,.int .i64 n,.string r.tag,.bool r.must,.bool r.once,.string r.i0,.string r.i1,.string r.codes,.string r.single]
def flC (f:Fl) (B:Option Addr) (c:Nat):List Value:=[.string f.tag,.string f.ind,.string f.data,.slice B f.subs.length c]
structure FAt (w:World) (v:Value) (n:Nat) (f:Fl) (B:Option Addr) (c:Nat):Prop where
  ex:∃ b off len cap,v=.slice (some ⟨b,off,none⟩) len cap∧n < len∧len≤9223372036854775807∧∀ i (hi:i < (flC f B c).length),w.cell? ⟨b,off+n*4+i,none⟩=some (flC f B c)[i]
theorem FAt.later {w w':World} {v:Value} {n:Nat} {f:Fl} {B:Option Addr} {c:Nat} (h:FAt w v n f B c) (hl:Later w w'):FAt w' v n f B c:=by
  obtain ⟨b,off,len,cap,h1,h2,h3,h4⟩:=h.ex
  exact ⟨b,off,len,cap,h1,h2,h3,fun i hi=>(hl.cell (p:=⟨b,off+n*4+i,none⟩) (em (h4 i hi))).trans (h4 i hi)⟩
def PAt (w:World) (q:Nat) (v:Value) (n:Int) (r:Rl):Prop:=∀ i (hi:i < (plC v n r).length),w.cell? ⟨q,i,none⟩=some (plC v n r)[i]
theorem PAt.later {w w':World} {q:Nat} {v:Value} {n:Int} {r:Rl} (h:PAt w q v n r) (hl:Later w w'):PAt w' q v n r:=fun i hi=>(hl.cell (p:=⟨q,i,none⟩) (em (h i hi))).trans (h i hi)
end Go.PK

namespace Go.PK
open Go Go.RowKit
abbrev ak:=Option (Nat×List Value×Nat)
def jI (r:ak):Option Addr:=r.map fun x=>⟨x.1,0,none⟩
def sW (r:ak):Nat:=match r with | none=>0 | some x=>x.2.2
def av (r:ak) (n:Nat):Value:=.slice (jI r) n (sW r)
def aA (e:TypeId) (r:ak):List (Nat×Obj):=match r with | none=>[] | some x=>[(x.1,.cells x.2.1.toArray e (0,0))]
def ag (size:Nat) (r:ak) (n:Nat) (xs:List Value):Prop :=
  xs.length=n*size∧match r with | none=>n=0 | some x=>n≤x.2.2∧x.2.2≤maxLen∧x.2.1.length=x.2.2*size∧x.2.1.take (n*size)=xs
theorem bE {size:Nat}:ag size none 0 []:=⟨by simp,rfl⟩
theorem cA {size n b:Nat} {cs:List Value} (h:cs.length=n*size) (hm:n≤maxLen):ag size (some (b,cs,n)) n cs:=⟨h,Nat.le_refl _,hm,h,by rw [← h,List.take_length]⟩
theorem ag.cell {size:Nat} {r:ak} {n:Nat} {xs:List Value} (h:ag size r n xs) {j:Nat} (hj:j < xs.length):∃ b cs c,r=some (b,cs,c)∧cs[j]?=some xs[j]:=by
  obtain ⟨h1,h2⟩:=h
  cases r with
  | none=>simp only at h2; subst h2; simp at h1; subst h1; simp at hj
  | some x =>
    obtain ⟨b,cs,c⟩:=x
    obtain ⟨_,_,h3,h4⟩:=h2
    refine ⟨b,cs,c,rfl,?_⟩
    subst h4
    rw [List.getElem_take,List.getElem?_eq_getElem]
section
variable {w w':World} {ro:List au}
theorem lu {own l1 l2:List (Nat×Obj)} {e:TypeId} {size n:Nat} {r:ak} {xs:List Value} (hm:Mem w (l1++aA e r++l2) ro) (h:ag size r n xs) :
    w.ownsRow 0 e size (av r n) n xs:=by
  obtain ⟨h1,h2⟩:=h
  refine ⟨h1,?_⟩
  cases r with
  | none=>left; simp only at h2; subst h2; exact ⟨rfl,rfl⟩
  | some x =>
    obtain ⟨b,cs,c⟩:=x
    obtain ⟨h3,h4,h5,h6⟩:=h2
    exact .inr ⟨b,c,cs.toArray,rfl,Nat.zero_le _,hm.own_at (b,_) (by simp [aA]),h3,h4,by simpa using h5,by simpa using h6⟩
theorem Mem.append {l1 l2:List (Nat×Obj)} {e:TypeId} {size n n':Nat} {r:ak} {v':Value} {xs':List Value} (hm:Mem w (l1++aA e r++l2) ro) (h':w'.ownsRow 0 e size v' n' xs') (hg:w.grownBy w' (av r n).ownBlock)
    (hb:v'.ownBlock=(av r n).ownBlock∨v'.ownBlock=some w.heap.size):∃ r',v'=av r' n'∧ag size r' n' xs'∧Mem w' (l1++aA e r'++l2) ro:=by
  have hkeep:∀ k,k < w.heap.size→(∀ b cs c,r=some (b,cs,c)→k≠b)→w'.heap[k]?=w.heap[k]?:=fun k hk hne=>hg.block k hk (by
    cases r with
    | none=>simp [av,jI,Value.ownBlock]
    | some x=>obtain ⟨b,cs,c⟩:=x; simpa [av,jI,Value.ownBlock] using hne b cs c rfl)
  -- the blocks beside the row
  have hside:∀ p,p∈l1∨p∈l2→p.1 < w.heap.size∧w.heap[p.1]?=some p.2∧∀ b cs c,r=some (b,cs,c)→p.1≠b:=by
    intro p hp
    have hmem:p∈l1++aA e r++l2:=by
      rcases hp with hp | hp <;> simp [hp]
    refine ⟨hm.lt hmem,hm.own_at p hmem,fun b cs c hr he=>?_⟩
    subst hr
    have hnd:=hm.own_nd
    simp only [aA,List.map_append,List.map_cons,List.map_nil] at hnd
    rw [List.nodup_append,List.nodup_append] at hnd
    obtain ⟨⟨_,_,h3⟩,_,h4⟩:=hnd
    rcases hp with hp | hp
    · exact h3 p.1 (List.mem_map_of_mem hp) b (by simp) he
    · exact h4 b (by simp) p.1 (List.mem_map_of_mem hp) he.symm
  have hro_st:∀ s∈ro,w'.os=s.1.os∧w'.tape=s.1.tape∧w'.output=s.1.output∧s.1.heap.size≤w'.heap.size:=fun s hs=>by
    obtain ⟨a1,a2,a3,a4⟩:=hm.ro_st s hs
    exact ⟨hg.os.trans a1,hg.tape.trans a2,hg.output.trans a3,Nat.le_trans a4 hg.size⟩
  have hro_at:∀ s∈ro,∀ k,s.2 k→k < s.1.heap.size→w'.heap[k]?=s.1.heap[k]?:=fun s hs k hk hlt=>by
    refine (hkeep k (Nat.lt_of_lt_of_le hlt (hm.ro_st s hs).2.2.2) fun b cs c hr he=>?_).trans (hm.ro_at s hs k hk hlt)
    subst hr
    have:=hm.apart (b,Obj.cells cs.toArray e (0,0)) (by simp [aA]) s hs (by rw [← he]; exact hk)
    simp only at this
    omega
  have hmid:∀ b,((∃ cs c,r=some (b,cs,c))∨b=w.heap.size)→∀ s∈ro,s.2 b→s.1.heap.size≤b:=fun b hb s hs hd=>by
    rcases hb with ⟨cs,c,rfl⟩ | rfl
    · exact hm.apart (b,Obj.cells cs.toArray e (0,0)) (by simp [aA]) s hs hd
    · exact (hm.ro_st s hs).2.2.2
  obtain ⟨h1,h2⟩:=h'
  rcases h2 with ⟨rfl,rfl⟩ | ⟨g,cap,cur,rfl,_,hh,hnc,hcm,hcs,htk⟩
  · refine ⟨none,rfl,⟨h1,rfl⟩,?_,?_,hro_st,hro_at,?_⟩
    · intro p hp
      have hp':p∈l1∨p∈l2:=by simpa [aA] using hp
      obtain ⟨a1,a2,a3⟩:=hside p hp'
      exact (hkeep p.1 a1 a3).trans a2
    · have hnd:=hm.own_nd
      simp only [aA,List.append_nil]
      exact ((List.sublist_append_left l1 (aA e r)).append (List.Sublist.refl l2) |>.map _).nodup hnd
    · intro p hp s hs hd
      have hp':p∈l1∨p∈l2:=by simpa [aA] using hp
      exact hm.apart p (by rcases hp' with h | h <;> simp [h]) s hs hd
  · have hgb:(∃ cs c,r=some (g,cs,c))∨g=w.heap.size:=by
      rcases hb with hb | hb
      · cases r with
        | none=>simp [av,jI,Value.ownBlock] at hb
        | some x=>obtain ⟨b,cs,c⟩:=x; simp [av,jI,Value.ownBlock] at hb; subst hb; exact .inl ⟨cs,c,rfl⟩
      · simp [Value.ownBlock] at hb; exact .inr hb
    have hgne:∀ p,p∈l1∨p∈l2→p.1≠g:=fun p hp he=>by
      obtain ⟨a1,_,a3⟩:=hside p hp
      rcases hgb with ⟨cs,c,hr⟩ | hg'
      · exact a3 g cs c hr he
      · omega
    refine ⟨some (g,cur.toList,cap),by simp [av,jI,sW],⟨h1,hnc,hcm,by simpa using hcs,htk⟩,?_,?_,hro_st,hro_at,?_⟩
    · intro p hp
      simp only [aA,List.mem_append,List.mem_singleton] at hp
      rcases hp with (hp | rfl) | hp
      · obtain ⟨a1,a2,a3⟩:=hside p (.inl hp); exact (hkeep p.1 a1 a3).trans a2
      · simpa using hh
      · obtain ⟨a1,a2,a3⟩:=hside p (.inr hp); exact (hkeep p.1 a1 a3).trans a2
    · have hnd:=hm.own_nd
      simp only [List.map_append] at hnd
      rw [List.nodup_append,List.nodup_append] at hnd
      obtain ⟨⟨b1,_,_⟩,b2,b3⟩:=hnd
      simp only [aA,List.map_append,List.map_cons,List.map_nil]
      rw [List.nodup_append,List.nodup_append]
      refine ⟨⟨b1,by simp,fun x hx y hy=>?_⟩,b2,fun x hx y hy=>?_⟩
      · obtain ⟨p,hp,rfl⟩:=List.mem_map.1 hx
        simp only [List.mem_singleton] at hy
        subst hy
        exact hgne p (.inl hp)
      · simp only [List.mem_append,List.mem_singleton] at hx
        rcases hx with hx | rfl
        · exact b3 x (by simp [hx]) y hy
        · obtain ⟨p,hp,rfl⟩:=List.mem_map.1 hy
          exact fun e=>hgne p (.inr hp) e.symm
    · intro p hp s hs hd
      simp only [aA,List.mem_append,List.mem_singleton] at hp
      rcases hp with (hp | rfl) | hp
      · exact hm.apart p (by simp [hp]) s hs hd
      · exact hmid g hgb s hs hd
      · exact hm.apart p (by simp [hp]) s hs hd
end
section
variable {P:Program} {n:Nat} {l:List (Nat×Value)} {own:List (Nat×Obj)} {ro:List au} {lops:List Oper} {Q:Exit→Act→World→Prop} {K:Act→World→Prop}
  {rest:List (Option Bool×Nat)} {k:Option Bool} {i d:Nat} {op:Op} {ty:TypeId} {pos:String} {af:Array Edge} {x y:Operand} {t:TypeId}
theorem bc {e:TypeId} {z:Value} {size bytes m len b2 o2 c2:Nat} {xs news:List Value} (l1:List (Nat×Obj)) {l2:List (Nat×Obj)} (r:ak) (ho:lops[i]?=some ⟨some d,.call ⟨.builtin .append,#[x,y],#[t,t]⟩,ty,pos,af,none⟩) (hd:decide (d < n)=true)
    (hx:ev l x=some (av r len)) (hy:ev l y=some (.slice (some ⟨b2,o2,none⟩) m c2)) (hown:own=l1++aA e r++l2) (hr:ag size r len xs)
    (ht:P.underlying t=some (.slice e)) (hi:(P.info? e).map (fun j=>(j.zero,j.size,j.bytes))=some (some z,size,bytes)) (hz:(decide (z.cells.size=size) && decide (0 < size))=true)
    (hl:news.length=m*size) (hat:∀ j (hj:j < news.length),At own ro b2 (o2+j) news[j]) (h1:news.all (fun u=>u.oneCell')=true)
    (hb1:len+m≤maxLen) (hb2:(len+m)*bytes≤140737488355328)
    (h:∀ r',ag size r' (len+m) (xs++news)→WX P lops.toArray Q K rest n ((d,av r' (len+m))::l) (l1++aA e r'++l2) ro):WX P lops.toArray Q K ((none,i)::rest) n l own ro:=by
  subst hown
  intro a w ha hw
  have hd':d < n:=of_decide_eq_true hd
  have hw1:=bS (lops:=lops) (n:=n) (l:=l) (o:=⟨some d,.call ⟨.builtin .append,#[x,y],#[t,t]⟩,ty,pos,af,none⟩) rfl a ha
  simp only [gW,List.getElem?_toArray,ho]
  intro w' hl'
  rw [if_pos hw1]
  have hM:=hw.later hl'
  obtain ⟨inf,hi1,hi2⟩:=Option.map_eq_some_iff.1 hi
  simp only [Prod.mk.injEq] at hi2
  obtain ⟨hiz,his,hib⟩:=hi2
  simp only [Bool.and_eq_true,decide_eq_true_eq] at hz
  obtain ⟨v',w2,hrun,h2,h3,_,h5⟩:=run_append_own_at (P:=P) w' 0 t ty e inf z size bytes ht hi1 hiz his hib hz.1 hz.2 (av r len) len xs (lu (own:=[]) hM hr) ⟨b2,o2,none⟩ m c2 news hl
    (fun j u hu=>by
      obtain ⟨hj,rfl⟩:=List.getElem?_eq_some_iff.1 hu
      rw [jb]
      exact hat j hj w' hM) (by simpa using h1) hb1 hb2 (Nat.zero_le _)
  obtain ⟨r',rfl,hok,hM2⟩:=hM.append h2 h3 h5
  unfold Oper.wp execOp
  simp only [resolve,invoke,builtin,Sem.run_bind,Sem.run_pure,Result.andThen_ok,List.map_toArray,List.map_cons,List.map_nil,ha.eval hx,ha.eval hy,hrun]
  exact h r' hok _ _ (ha.put _ hd') hM2
end
end Go.PK

namespace Go.PK
open Go Go.RowKit Go.Maps
structure MapF (P:Program) (kt:TypeId) (es:Array MapEntry) (f:Value→Option Value):Prop where
  key:∀ (i:Nat) (e:MapEntry),es[i]?=some e→∃ kl,keyOf P kt e.key=some kl
  val:∀ (i:Nat) (e:MapEntry),es[i]?=some e→f e.key=some e.val
  has:∀ x v,f x=some v→∃ (i:Nat) (e:MapEntry),es[i]?=some e∧e.key=x∧e.val=v
  one:∀ (i j:Nat) (e e':MapEntry),es[i]?=some e→es[j]?=some e'→e.key=e'.key→i=j
noncomputable def il (f:Value→Option Value) (x v:Value):Value→Option Value:=open Classical in fun y=>if y=x then some v else f y
theorem dK {f:Value→Option Value} {x v:Value}:il f x v x=some v:=if_pos rfl
theorem f9 {f:Value→Option Value} {x v y:Value} (h:y≠x):il f x v y=f y:=if_neg h
theorem MapF.empty {P:Program} {kt:TypeId}:MapF P kt #[] (fun _=>none):=⟨by simp,by simp,by simp,by simp⟩
section
variable {P:Program} {kt:TypeId} {es:Array MapEntry} {f:Value→Option Value}
theorem MapF.find (h:MapF P kt es f) (K:Keyed P kt) {x:Value} {lx:Lit} (hx:keyOf P kt x=some lx) (w:World) :
    ((Instr.findKey kt x es.toList).run P w=.ok none w∧f x=none)∨∃ (j:Nat) (e:MapEntry),(Instr.findKey kt x es.toList).run P w=.ok (some (j,e.val)) w∧es[j]?=some e∧e.key=x∧f x=some e.val:=by
  rcases K.find w hx es.toList (fun e he=>by
    obtain ⟨i,hi⟩:=List.getElem?_of_mem he
    exact h.key i e (by simpa using hi)) with ⟨h1,h2⟩ | ⟨j,e,h1,h2,h3⟩
  · refine .inl ⟨h1,?_⟩
    cases hf:f x with
    | none=>rfl
    | some v =>
      obtain ⟨i,e,h3,h4,_⟩:=h.has x v hf
      exact absurd h4 (h2 e (by rw [← Array.getElem?_toList] at h3; exact List.mem_of_getElem? h3))
  · have h2':es[j]?=some e:=by simpa using h2
    exact .inr ⟨j,e,h1,h2',h3,h3▸h.val j e h2'⟩
theorem MapF.push (h:MapF P kt es f) {x v:Value} {lx:Lit} {born:Nat} (hx:keyOf P kt x=some lx) (hf:f x=none):MapF P kt (es.push ⟨x,v,born⟩) (il f x v):=by
  have old:∀ (i:Nat) (e:MapEntry),es[i]?=some e→e.key≠x:=fun i e he hk=>by
    have:=h.val i e he
    rw [hk,hf] at this
    cases this
  have cases':∀ (i:Nat) (e:MapEntry),(es.push ⟨x,v,born⟩)[i]?=some e→(es[i]?=some e∧i < es.size)∨(i=es.size∧e=⟨x,v,born⟩):=fun i e he=>by
    rw [Array.getElem?_push] at he
    split at he
    · cases he; exact .inr ⟨‹_›,rfl⟩
    · refine .inl ⟨he,?_⟩
      exact (Array.getElem?_eq_some_iff.1 he).1
  refine ⟨fun i e he=>?_,fun i e he=>?_,fun y u hy=>?_,fun i j e e' he he' hk=>?_⟩
  · rcases cases' i e he with ⟨h1,_⟩ | ⟨_,rfl⟩
    · exact h.key i e h1
    · exact ⟨_,hx⟩
  · rcases cases' i e he with ⟨h1,_⟩ | ⟨_,rfl⟩
    · rw [f9 (old i e h1)]; exact h.val i e h1
    · exact dK
  · by_cases hyx:y=x
    · subst hyx
      rw [dK] at hy
      cases hy
      exact ⟨es.size,_,by rw [Array.getElem?_push,if_pos rfl],rfl,rfl⟩
    · rw [f9 hyx] at hy
      obtain ⟨i,e,h1,h2,h3⟩:=h.has y u hy
      have hi:=(Array.getElem?_eq_some_iff.1 h1).1
      exact ⟨i,e,by rw [Array.getElem?_push,if_neg (by omega)]; exact h1,h2,h3⟩
  · rcases cases' i e he with ⟨h1,_⟩ | ⟨hi,rfl⟩ <;> rcases cases' j e' he' with ⟨h2,_⟩ | ⟨hj,rfl⟩
    · exact h.one i j e e' h1 h2 hk
    · exact absurd hk (old i e h1)
    · exact absurd hk.symm (old j e' h2)
    · omega
theorem MapF.put (h:MapF P kt es f) {x v:Value} {lx:Lit} {j:Nat} {e0:MapEntry} (hx:keyOf P kt x=some lx) (h0:es[j]?=some e0) (hk0:e0.key=x) :
    MapF P kt (es.modify j fun e=>{ e with key:=x,val:=v }) (il f x v):=by
  have cases':∀ (i:Nat) (e:MapEntry),(es.modify j fun e=>{ e with key:=x,val:=v })[i]?=some e→(es[i]?=some e∧i≠j)∨(i=j∧e.key=x∧e.val=v):=fun i e he=>by
    rw [Array.getElem?_modify] at he
    split at he
    · subst_vars
      rw [h0] at he
      cases he
      exact .inr ⟨rfl,rfl,rfl⟩
    · exact .inl ⟨he,fun e=>by simp_all⟩
  have old:∀ (i:Nat) (e:MapEntry),es[i]?=some e→i≠j→e.key≠x:=fun i e he hne hk=>hne (h.one i j e e0 he h0 (hk.trans hk0.symm))
  refine ⟨fun i e he=>?_,fun i e he=>?_,fun y u hy=>?_,fun i j' e e' he he' hk=>?_⟩
  · rcases cases' i e he with ⟨h1,_⟩ | ⟨_,h2,_⟩
    · exact h.key i e h1
    · exact ⟨_,h2▸hx⟩
  · rcases cases' i e he with ⟨h1,h2⟩ | ⟨_,h2,h3⟩
    · rw [f9 (old i e h1 h2)]; exact h.val i e h1
    · rw [h2,h3]; exact dK
  · by_cases hyx:y=x
    · subst hyx
      rw [dK] at hy
      cases hy
      exact ⟨j,{ e0 with key:=y,val:=v },by rw [Array.getElem?_modify,if_pos rfl,h0]; rfl,rfl,rfl⟩
    · rw [f9 hyx] at hy
      obtain ⟨i,e,h1,h2,h3⟩:=h.has y u hy
      have hne:j≠i:=fun e1=>by subst e1; rw [h0] at h1; cases h1; exact hyx (h2.symm.trans hk0)
      exact ⟨i,e,by rw [Array.getElem?_modify,if_neg hne]; exact h1,h2,h3⟩
  · rcases cases' i e he with ⟨h1,h2⟩ | ⟨hi,h2,_⟩ <;> rcases cases' j' e' he' with ⟨h3,h4⟩ | ⟨hj,h4,_⟩
    · exact h.one i j' e e' h1 h3 hk
    · exact absurd (hk.trans h4) (old i e h1 h2)
    · exact absurd (hk.symm.trans h2) (old j' e' h3 h4)
    · omega
end
theorem gq {w:World} {g:Nat} {o o':Obj} (h:w.heap[g]?=some o):Turned w { w with heap:=w.heap.setIfInBounds g o' } g o' where
  os:=rfl
  tape:=rfl
  output:=rfl
  size:=by simp
  at_:=by
    show (w.heap.setIfInBounds g o')[g]?=some o'
    rw [Array.getElem?_setIfInBounds_self_of_lt (dO h)]
  other:=fun k hk=>by
    show (w.heap.setIfInBounds g o')[k]?=w.heap[k]?
    rw [Array.getElem?_setIfInBounds_ne (fun e=>hk e.symm)]
section
variable {P:Program} {n:Nat} {l:List (Nat×Value)} {own:List (Nat×Obj)} {ro:List au} {lops:List Oper} {Q:Exit→Act→World→Prop} {K:Act→World→Prop}
  {rest:List (Option Bool×Nat)} {k:Option Bool} {i d:Nat} {op:Op} {ty:TypeId} {pos:String} {af:Array Edge} {x y m:Operand} {t kt e:TypeId} {b:Nat} {es:Array MapEntry} {clock:Nat} {f:Value→Option Value}
theorem mc (ho:lops[i]?=some ⟨some d,.makeMap t none,ty,pos,af,none⟩) (hk:(k == some true)=false) (hd:decide (d < n)=true)
    (h:∀ b,WX P lops.toArray Q K rest n ((d,.map (some b))::l) ((b,.map #[] 0)::own) ro):WX P lops.toArray Q K ((k,i)::rest) n l own ro :=
  nJ (f:=fun b=>.map (some b)) ho (bS rfl) rfl hk hd (fun a w ha hw=>by simp [execOp,Instr.makeMap]) h
theorem iz {u v z:Value} {lx:Lit} (ht:P.underlying t=some (.map kt e)) (KK:Keyed P kt) (hz:(P.info? e).bind (·.zero)=some z) (hm:ev l m=some (.map (some b))) (hx:ev l x=some u) (hkey:keyOf P kt u=some lx)
    (hb:(b,Obj.map es clock)∈own) (hf:MapF P kt es f) (hv:(f u).getD z=v):cv P n l own ro (.lookup t m x false) ty v:=by
  intro A w o ha hw ho _
  have hg:=hw.own_at _ hb
  subst hv
  rcases hf.find KK hkey w with ⟨h1,h2⟩ | ⟨j,e,h1,h2,h3,h4⟩
  · simp [execOp,ho,ha.eval hm,ha.eval hx,Instr.lookup,run_underlying ht,MapKept.run_getObj_map hg,KK.check w _ hkey,h1,cw hz,h2,Result.andThen]
  · simp [execOp,ho,ha.eval hm,ha.eval hx,Instr.lookup,run_underlying ht,MapKept.run_getObj_map hg,KK.check w _ hkey,h1,h4,Result.andThen]
theorem mN {u v:Value} {lx:Lit} (l1:List (Nat×Obj)) {l2:List (Nat×Obj)} (ho:lops[i]?=some ⟨none,.mapUpdate t m x y,ty,pos,af,none⟩) (hm:ev l m=some (.map (some b))) (hx:ev l x=some u) (hy:ev l y=some v)
    (ht:P.underlying t=some (.map kt e)) (KK:Keyed P kt) (hkey:keyOf P kt u=some lx) (hown:own=l1++(b,.map es clock)::l2) (hf:MapF P kt es f)
    (h:∀ es' clock',MapF P kt es' (il f u v)→WX P lops.toArray Q K rest n l (l1++(b,.map es' clock')::l2) ro):WX P lops.toArray Q K ((none,i)::rest) n l own ro:=by
  subst hown
  intro a w ha hw
  have hw1:=bS (lops:=lops) (n:=n) (l:=l) (o:=⟨none,.mapUpdate t m x y,ty,pos,af,none⟩) rfl a ha
  simp only [gW,List.getElem?_toArray,ho]
  intro w' hl
  rw [if_pos hw1]
  have hM:=hw.later hl
  have hg:w'.heap[b]?=some (.map es clock):=hM.own_at (b,_) (by simp)
  have hrun:∃ es' clock',MapF P kt es' (il f u v)∧(Instr.mapUpdate t (.map (some b)) u v).run P w'=.ok () { w' with heap:=w'.heap.setIfInBounds b (.map es' clock') }:=by
    rcases hf.find KK hkey w' with ⟨h1,h2⟩ | ⟨j,e0,h1,h2,h3,h4⟩
    · exact ⟨_,clock+1,hf.push (v:=v) (born:=clock) hkey h2,by simp [Instr.mapUpdate,run_underlying ht,MapKept.run_getObj_map hg,KK.check w' false hkey,h1,MapKept.run_setObj_map _ hg,Result.andThen]⟩
    · refine ⟨_,clock,hf.put (v:=v) hkey h2 h3,?_⟩
      have hs:(Instr.keyThatStays (((es[j]?).map (·.key)).getD u) u).run P w'=.ok u w':=by
        rw [h2]; simp only [Option.map_some,Option.getD_some,h3]; exact KK.stays w' hkey
      simp only [Instr.mapUpdate,Sem.run_bind,run_underlying ht,Result.andThen_ok,MapKept.run_getObj_map hg,KK.check w' false hkey,h1,hs,MapKept.run_setObj_map _ hg]
  obtain ⟨es',clock',hf',hr⟩:=hrun
  unfold Oper.wp
  have hr2:(execOp a.eval ⟨none,.mapUpdate t m x y,ty,pos,af,none⟩).run P w'=.ok .skip { w' with heap:=w'.heap.setIfInBounds b (.map es' clock') }:=by
    simp only [execOp,ha.eval hm,ha.eval hx,ha.eval hy,Sem.run_bind,hr,Result.andThen_ok,Sem.run_pure]
  rw [hr2]
  show gW P lops.toArray Q K rest (a.put none undef) _
  exact h es' clock' hf' a _ ha (hM.turn (gq hg))
end
theorem ay {P:Program} {n:Nat} {own:List (Nat×Obj)} {ro:List au} {fn:Func} {R:Ending→World→Prop} {f:FuncId} {c:Code} {vs:List Value} {w:World} (hm:Mem w own ro) (hf:P.funcs[f]?=some fn) (hb:fn.body=some c) (hn:fn.ntmps=n) (hv:decide (vs.length≤n)=true)
    (h:W P c (bodyPost P fn R) n (nK 0 vs) own ro):Calls P f vs.toArray w R:=by
  have hv':=of_decide_eq_true hv
  refine calls_of_wp hf hb (h _ w ⟨by simp [hn]; omega,rfl,fun s v hs=>?_⟩ hm)
  obtain ⟨_,h2⟩:=f4 _ _ _ _ hs
  simp only [Nat.sub_zero] at h2
  have hlt:s < vs.length:=(List.getElem?_eq_some_iff.1 h2).1
  show (vs.toArray++_)[s]?=some v
  rw [Array.getElem?_append_left (by simpa using hlt)]
  simpa using h2
section
variable {P:Program} {n:Nat} {l:List (Nat×Value)} {own:List (Nat×Obj)} {ro:List au} {lops:List Oper} {Q:Exit→Act→World→Prop} {K:Act→World→Prop}
  {rest:List (Option Bool×Nat)} {k:Option Bool} {i d:Nat} {ty:TypeId} {pos:String} {af:Array Edge}
theorem rm {τ:Type} {f:FuncId} {fn:Func} {xs:Array Operand} {tys:Array TypeId} {c:Operand} {vs:List Value} {fst cap:Array Value} {v:Value} (R:τ→Prop) (O:τ→List (Nat×Obj)) (ho:lops[i]?=some ⟨some d,.call ⟨.value c,xs,tys⟩,ty,pos,af,none⟩) (hd:decide (d < n)=true)
    (hcal:ev l c=some (.func (.func f) fst cap)) (hf:P.funcs[f]?=some fn) (hbody:(!(fn.name == "runtime.NumGoroutine") && fn.body.isSome)=true) (hx:ll l xs.toList=some vs)
    (hc:∀ w,Mem w own ro→Calls P f (fst++vs.toArray++cap) w fun e w'=>e=.returned v∧∃ x,R x∧Mem w' (O x) ro)
    (h:∀ x,R x→WX P lops.toArray Q K rest n ((d,v)::l) (O x) ro):WX P lops.toArray Q K ((none,i)::rest) n l own ro:=by
  intro a w ha hw
  have hd':d < n:=of_decide_eq_true hd
  have hw1:=bS (lops:=lops) (n:=n) (l:=l) (o:=⟨some d,.call ⟨.value c,xs,tys⟩,ty,pos,af,none⟩) rfl a ha
  simp only [gW,List.getElem?_toArray,ho]
  intro w' hl
  rw [if_pos hw1]
  unfold Oper.wp
  rw [dJ rfl ha hcal hf hbody hx]
  refine Calls.mono (hc w' (hw.later hl)) fun e w2 he=>?_
  obtain ⟨rfl,x,hr,hm⟩:=he
  exact h x hr _ w2 (ha.put v hd') hm
end
end Go.PK

namespace Go.PK
open Go Go.RowKit
def dL:Value→List Value
  | .agg cs=>cs.toList
  | v=>[v]
theorem gj (v:Value):v.cells.toList=dL v:=by cases v <;> rfl
theorem kH (v:Value):v.cells.size=(dL v).length:=by rw [← gj]; simp
def nM:List Value→Nat→List Value→List Value
  | [],_,_=>[]
  | c::cs,0,[]=>c::cs
  | _::cs,0,v::vs=>v::nM cs 0 vs
  | c::cs,n+1,vs=>c::nM cs n vs
theorem sX:∀ (cs:List Value) (n:Nat),nM cs n []=cs
  | [],n=>by cases n <;> rfl
  | c::cs,0=>rfl
  | c::cs,n+1=>by show c::nM cs n []=c::cs; rw [sX cs n]
theorem pY (v:Value) (vs:List Value):∀ (cs:List Value) (n:Nat),nM cs n (v::vs)=nM (cs.set n v) (n+1) vs
  | [],n=>by cases n <;> rfl
  | c::cs,0=>rfl
  | c::cs,n+1=>by show c::nM cs n (v::vs)=c::nM (cs.set n v) (n+1) vs; rw [pY v vs cs n]
theorem pZ (off:Nat):∀ (vs:List Value) (s:Nat) (cells:Array Value),(vs.zipIdx s).foldl (fun cs x=>cs.setIfInBounds (off+x.2) x.1) cells=(nM cells.toList (off+s) vs).toArray
  | [],s,cells=>by simp [sX]
  | v::vs,s,cells=>by
    rw [List.zipIdx_cons,List.foldl_cons,pZ off vs (s+1),pY]
    simp [Nat.add_assoc]
def nN (pl:Nat→Option (Nat×Nat)):List Value→List (Nat×Value)→Option (List Value)
  | cells,[]=>some cells
  | cells,(i,v)::r=>match pl i with
    | none=>none
    | some (off,size)=>match Nat.beq (dL v).length size && Nat.ble (off+(dL v).length) cells.length with
      | true=>nN pl (nM cells off (dL v)) r
      | false=>none
theorem iC {pl:Nat→Option (Nat×Nat)}:∀ (vs:List (Nat×Value)) (cells cs:List Value),nN pl cells vs=some cs→Instr.fill pl cells.toArray vs=some cs.toArray
  | [],cells,cs,h=>by cases h; rfl
  | (i,v)::r,cells,cs,h=>by
    simp only [nN] at h
    unfold Instr.fill
    split at h
    · cases h
    · rename_i off size hp
      rw [hp]
      split at h
      · rename_i hb
        obtain ⟨h1,h2⟩:=Bool.and_eq_true_iff.1 hb
        have h1:=Nat.eq_of_beq_eq_true h1
        have h2:=Nat.le_of_ble_eq_true h2
        have hn:¬ ((decide (v.cells.size≠size) || decide (off+v.cells.size > cells.toArray.size))=true):=by
          rw [kH]; simp only [List.size_toArray,Bool.or_eq_true,decide_eq_true_eq]; omega
        dsimp only
        rw [if_neg hn]
        have:v.cells.zipIdx.foldl (fun cs (x:Value×Nat)=>cs.setIfInBounds (off+x.2) x.1) cells.toArray=(nM cells off (dL v)).toArray:=by
          rw [← Array.foldl_toList,Array.toList_zipIdx,pZ,gj]; simp
        have h3:=iC r _ cs h
        rw [← this] at h3
        exact h3
      · cases h
section
variable {P:Program} {n:Nat} {l:List (Nat×Value)} {own:List (Nat×Obj)} {ro:List au} {lops:List Oper} {Q:Exit→Act→World→Prop} {K:Act→World→Prop}
  {rest:List (Option Bool×Nat)} {k:Option Bool} {i d:Nat} {op:Op} {ty:TypeId} {pos:String} {af:Array Edge} {x y:Operand} {t:TypeId}
theorem nO {parts:List (Nat×Operand)} {vs:List (Nat×Value)} {z:Value} {cs:List Value} {N m:Nat} {e:TypeId} (ht:P.underlying t=some (.array N e)) (hz:(P.info? t).bind (·.zero)=some z)
    (hs:(P.info? e).map (·.size)=some m) (hx:evp l parts=some vs) (hf:nN (fun j=>some (j*m,m)) (dL z) vs=some cs) :
    cv P n l own ro (.build t parts.toArray) ty (.agg cs.toArray):=by
  intro A w o ha hw ho _
  have hparts:(parts.toArray.map fun (i,x)=>(i,A.eval x)).toList=vs:=by
    rw [Array.toList_map]; exact ha.evps hx
  have hfill:=iC vs (dL z) cs hf
  rw [← gj] at hfill
  simp only [Array.toArray_toList] at hfill
  simp only [execOp,ho,Instr.build,Sem.run_bind,cw hz,Result.andThen_ok,run_underlying ht,run_sizeOf hs,hparts,hfill,Sem.run_pure]
theorem x_mem {plan:List (Option Bool×Nat)} {own':List (Nat×Obj)} {ro':List au} (hm:∀ w,Mem w own ro→Mem w own' ro') (h:WX P lops.toArray Q K plan n l own' ro'):WX P lops.toArray Q K plan n l own ro :=
  fun a w ha hw=>h a w ha (hm w hw)
theorem dU {c:Code} {own':List (Nat×Obj)} {ro':List au} {Q:Exit→Act→World→Prop} (hm:∀ w,Mem w own ro→Mem w own' ro') (h:W P c Q n l own' ro'):W P c Q n l own ro :=
  fun a w ha hw=>h a w ha (hm w hw)
theorem aG {parts:List (Nat×Operand)} {vs:List (Nat×Value)} {fs:Array Field} {z:Value} {cs:List Value} {places:List (Nat×Nat)} (ht:P.underlying t=some (.struct fs)) (hz:(P.info? t).bind (·.zero)=some z)
    (hp:fs.toList.map (fun f=>((P.info? f.type).map fun j=>(f.offset,j.size)))=places.map some) (hx:evp l parts=some vs) (hf:nN (places[·]?) (dL z) vs=some cs) :
    cv P n l own ro (.build t parts.toArray) ty (.agg cs.toArray):=by
  refine v_build (places:=places.toArray) ht hz (by simpa using hp) hx ?_
  have:=iC vs (dL z) cs hf
  rw [← gj] at this
  simpa using this
theorem ac {parts:List (Nat×Operand)} {vs:List (Nat×Value)} {e:TypeId} {z:Value} {cs:List Value} {len m:Nat} (ho:lops[i]?=some ⟨some d,.buildSlice t len parts.toArray,ty,pos,af,none⟩) (hk:(k == some true)=false) (hd:decide (d < n)=true)
    (ht:P.underlying t=some (.slice e)) (hs:(P.info? e).map (·.size)=some m) (hz:(P.info? e).bind (·.zero)=some z) (hlen:(decide (len*m≤2 ^ 24) && decide (0 < len*m))=true) (hx:evp l parts=some vs)
    (hf:nN (fun j=>some (j*m,m)) ((List.range (len*m)).map (fun i=>(dL z)[i%(dL z).length]!)) vs=some cs)
    (h:∀ b,WX P lops.toArray Q K rest n ((d,.slice (some ⟨b,0,none⟩) len len)::l) ((b,.cells cs.toArray e)::own) ro):WX P lops.toArray Q K ((k,i)::rest) n l own ro:=by
  refine rl ho hk hd ht hs hz hlen hx (cs:=cs.toArray) ?_ h
  have h1:=iC vs _ cs hf
  have h2:((List.range (len*m)).map (fun i=>(dL z)[i%(dL z).length]!)).toArray=(Array.range (len*m)).map (z.cells[·%z.cells.size]!):=by
    apply Array.toList_inj.1
    simp only [Array.toList_map,Array.toList_range]
    refine List.map_congr_left fun j _=>?_
    rw [kH,← gj]
    simp [Array.getElem!_eq_getD,Array.getD_eq_getD_getElem?]
  rwa [h2] at h1
end
end Go.PK

namespace Go.PK
open Go Go.RowKit
def td:Nat→Bool | 0=>false | _=>true
def lw (rs:List Rl) (fs:List Fl) (k i:Nat) (mf:Value→Option Value):Prop :=
  ∀ j (hj:j < rs.length),(mf (.int .i64 (j:Nat))).getD (.bool false)=.bool ((fs.take (if j < i then k+1 else k)).any fun f=>mtc rs[j].tag f.tag)
theorem lw.init (rs:List Rl) (fs:List Fl):lw rs fs 0 0 (fun _=>none):=fun j hj=>by simp
theorem lw.next {rs:List Rl} {fs:List Fl} {k i:Nat} {mf:Value→Option Value} (h:lw rs fs k i mf) (hi:rs.length≤i):lw rs fs (k+1) 0 mf:=fun j hj=>by
  rw [h j hj,if_pos (by omega),if_neg (by omega)]
theorem lw.at {rs:List Rl} {fs:List Fl} {k i:Nat} {mf:Value→Option Value} (h:lw rs fs k i mf) (hi:i < rs.length):(mf (.int .i64 (i:Nat))).getD (.bool false)=.bool ((fs.take k).any fun f=>mtc rs[i].tag f.tag):=by
  rw [h i hi,if_neg (Nat.lt_irrefl i)]
theorem lw.last {rs:List Rl} {fs:List Fl} {mf:Value→Option Value} (h:lw rs fs fs.length 0 mf) {i:Nat} (hi:i < rs.length):(mf (.int .i64 (i:Nat))).getD (.bool false)=.bool (fs.any fun f=>mtc rs[i].tag f.tag):=by
  rw [h i hi,if_neg (Nat.not_lt_zero i),List.take_length]
end Go.PK

namespace Go.PK
open Go Go.RowKit
end Go.PK

namespace Go.PK
open Go
end Go.PK

namespace Go.PK
open Go Go.RowKit
theorem qa {m:Nat}:∀ (css:List (List Value)) (hf:∀ x∈css,x.length=m) (j:Nat) (hj:j < css.length) (i:Nat),i < m→css.flatten[j*m+i]?=(css[j])[i]?
  | [],_,j,hj,_,_=>by simp at hj
  | x::xs,hf,0,_,i,hi=>by
    rw [List.flatten_cons,List.getElem?_append_left (by rw [hf x (by simp)]; omega)]; simp
  | x::xs,hf,j+1,hj,i,hi=>by
    rw [List.flatten_cons,List.getElem?_append_right (by rw [hf x (by simp),Nat.add_mul]; omega),hf x (by simp),show (j+1)*m+i - m=j*m+i by rw [Nat.add_mul]; omega]
    exact qa xs (fun y hy=>hf y (by simp [hy])) j (by simpa using hj) i hi
def qb {α:Type} (T:Ty α) (D:Nat→Prop) (w:World):List (List Value)→List α→Prop
  | [],[]=>True
  | c::cs,x::xs=>T.rd D w c x∧qb T D w cs xs
  | _,_=>False
theorem qb.at {α:Type} {T:Ty α} {D:Nat→Prop} {w:World}:∀ {css:List (List Value)} {xs:List α},qb T D w css xs→css.length=xs.length∧∀ j (h1:j < css.length) (h2:j < xs.length),T.rd D w css[j] xs[j]
  | [],[],_=>⟨rfl,fun j h=>by simp at h⟩
  | c::cs,x::xs,⟨h,hr⟩=>by
    obtain ⟨e1,e2⟩:=hr.at
    refine ⟨by simp [e1],fun j h1 h2=>?_⟩
    cases j with
    | zero=>exact h
    | succ j=>exact e2 j (by simpa using h1) (by simpa using h2)
theorem lits_rd {α:Type} {T:Ty α} {D:Nat→Prop} {w:World} {b n:Nat} {e:TypeId} {cs:List Value} {fz:Nat×Nat} (css:List (List Value)) {xs:List α} (hb:w.heap[b]?=some (.cells cs.toArray e fz))
    (hcs:cs=css.flatten) (hn:n=xs.length) (hmx:xs.length≤9223372036854775807) (hD:D b) (hrd:qb T D w css xs):aa T D w (.slice (some ⟨b,0,none⟩) n n) xs:=by
  subst hn
  obtain ⟨e1,e2⟩:=hrd.at
  have hlen:∀ x∈css,x.length=T.size:=fun x hx=>by
    obtain ⟨j,hj,rfl⟩:=List.mem_iff_getElem.1 hx
    exact T.len (e2 j hj (by omega))
  refine ⟨_,_,rfl,Nat.le_refl _,hmx,fun h0=>⟨b,0,rfl,hD,dO hb,fun j hj=>⟨css[j]'(by omega),fun i hi=>?_,e2 j (by omega) hj⟩⟩⟩
  have hi':i < T.size:=by rw [hlen _ (List.getElem_mem _)] at hi; exact hi
  have h1:=qa css hlen j (by omega) i hi'
  rw [Nat.zero_add,cell_of_row w b _ cs.toArray e fz hb,List.getElem?_toArray,hcs,h1]
  exact List.getElem?_eq_getElem hi
end Go.PK

namespace Go.PK
open Go Go.RowKit
section
variable {P:Program} {n:Nat} {l:List (Nat×Value)} {own:List (Nat×Obj)} {ro:List au} {lops:List Oper} {Q:Exit→Act→World→Prop} {K:Act→World→Prop}
  {rest:List (Option Bool×Nat)} {k:Option Bool} {i d:Nat} {ty t:TypeId} {pos:String} {af:Array Edge}
theorem fl {τ:Type} {f:FuncId} {fn:Func} {xs:Array Operand} {tys:Array TypeId} {vs:List Value} (V:τ→Value) (R:τ→Prop) (O:τ→List (Nat×Obj)) (ho:lops[i]?=some ⟨some d,.call ⟨.value (.func f),xs,tys⟩,ty,pos,af,none⟩) (hk:(k == some true)=false) (hd:decide (d < n)=true)
    (hf:P.funcs[f]?=some fn) (hbody:(!(fn.name == "runtime.NumGoroutine") && fn.body.isSome)=true) (hx:ll l xs.toList=some vs)
    (hc:∀ w,Mem w own ro→Calls P f vs.toArray w fun e w'=>∃ x,e=.returned (V x)∧Later w w'∧R x∧Mem w' (O x) ro)
    (h:∀ x,R x→WX P lops.toArray Q K rest n ((d,V x)::l) (O x) ro):WX P lops.toArray Q K ((k,i)::rest) n l own ro:=by
  intro a w ha hw
  have hd':d < n:=of_decide_eq_true hd
  have hw1:=bS (lops:=lops) (n:=n) (l:=l) (o:=⟨some d,.call ⟨.value (.func f),xs,tys⟩,ty,pos,af,none⟩) rfl a ha
  have hc':∀ w,Mem w own ro→Calls P f ((#[]:Array Value)++vs.toArray++#[]) w fun e w'=>∃ x,e=.returned (V x)∧Later w w'∧R x∧Mem w' (O x) ro:=by simpa using hc
  simp only [gW,List.getElem?_toArray,ho]
  cases k with
  | none =>
    intro w' hl
    rw [if_pos hw1]
    unfold Oper.wp
    rw [dJ (fst:=#[]) (cap:=#[]) rfl ha rfl hf hbody hx]
    refine Calls.mono (hc' w' (hw.later hl)) fun e w2 he=>?_
    obtain ⟨x,rfl,hl2,hr,hm⟩:=he
    exact h x hr _ w2 (ha.put _ hd') hm
  | some b =>
    have:b=false:=by cases b <;> simp_all
    subst this
    dsimp only
    rw [if_pos hw1]
    intro w' hl
    unfold Oper.wp
    rw [dJ (fst:=#[]) (cap:=#[]) rfl ha rfl hf hbody hx]
    refine Calls.mono (hc' w' (hw.later hl)) fun e w2 he=>?_
    obtain ⟨x,rfl,hl2,hr,hm⟩:=he
    exact ⟨hl2,h x hr _ w2 (ha.put _ hd') hm⟩
theorem gu {parts:List (Nat×Operand)} {vs:List (Nat×Value)} {e:TypeId} {z:Value} {cs:List Value} {len m j dj:Nat} {want:Bool} (ho:lops[i]?=some ⟨some d,.buildSlice t len parts.toArray,ty,pos,af,some (j,want)⟩) (hj:(lops[j]?).bind (·.dst)=some dj) (hb:l.lookup dj=some (.bool want))
    (hk:(k == some true)=false) (hd:decide (d < n)=true)
    (ht:P.underlying t=some (.slice e)) (hs:(P.info? e).map (·.size)=some m) (hz:(P.info? e).bind (·.zero)=some z) (hlen:(decide (len*m≤2 ^ 24) && decide (0 < len*m))=true) (hx:evp l parts=some vs)
    (hf:nN (fun j=>some (j*m,m)) ((List.range (len*m)).map (fun i=>(dL z)[i%(dL z).length]!)) vs=some cs)
    (h:∀ b,WX P lops.toArray Q K rest n ((d,.slice (some ⟨b,0,none⟩) len len)::l) ((b,.cells cs.toArray e)::own) ro):WX P lops.toArray Q K ((k,i)::rest) n l own ro :=
  nJ (f:=fun b=>.slice (some ⟨b,0,none⟩) len len) ho (gZ rfl hj hb) rfl hk hd (fun A w ha hw=>by
    have hparts:(parts.toArray.map fun (i,x)=>(i,A.eval x)).toList=vs:=by
      rw [Array.toList_map]; exact ha.evps hx
    simp only [Bool.and_eq_true,decide_eq_true_eq] at hlen
    have h1:¬ len*m > 2 ^ 24:=by omega
    have h2:¬ len*m=0:=by omega
    have h3:=iC vs _ cs hf
    have h4:((List.range (len*m)).map (fun i=>(dL z)[i%(dL z).length]!)).toArray=(Array.range (len*m)).map (z.cells[·%z.cells.size]!):=by
      apply Array.toList_inj.1
      simp only [Array.toList_map,Array.toList_range]
      refine List.map_congr_left fun j _=>?_
      rw [kH,← gj]
      simp [Array.getElem!_eq_getD,Array.getD_eq_getD_getElem?]
    rw [h4] at h3
    simp only [execOp,Instr.buildSlice,Sem.run_bind,run_underlying ht,Result.andThen_ok,run_sizeOf hs,h1,h2,if_false,cw hz,Sem.run_pure,hparts,h3,newRow]
    simp) h
end
theorem bW {α:Type} {T:Ty α} {wa wb w1:World} {own own1:List (Nat×Obj)} {ro ro1:List au} {v:Value} {xs:List α} (h:aa T (fun b=>wa.heap.size≤b) wb v xs) (hw1:Mem w1 own1 ro1) (hs:(wb,aZ own)∈ro1) (hm:Mem wa own ro):aa T (fun _=>True) w1 v xs :=
  h.keep fun k hk hlt=>⟨trivial,hw1.ro_at _ hs k (fun p hp he=>by have:=hm.lt hp; omega) hlt⟩
end Go.PK

namespace Go.PK
open Go Go.RowKit
section
variable {P:Program} {n:Nat} {l:List (Nat×Value)} {own own':List (Nat×Obj)} {ro:List au} {lops:List Oper} {Q:Exit→Act→World→Prop} {K:Act→World→Prop} {c:Code} {plan:List (Option Bool×Nat)}
theorem Mem.fix {w:World} (h:Mem w own ro) (hs:own'.Sublist own):Mem w own' ((w,aZ own')::ro):=(h.less hs (fun s hs=>hs)).snap
theorem qc (own':List (Nat×Obj)) (hs:own'.Sublist own) (h:∀ w0,Mem w0 own ro→S K n l own' ((w0,aZ own')::ro)):S K n l own ro :=
  fun a w ha hw=>h w hw a w ha (hw.fix hs)
theorem qd (own':List (Nat×Obj)) (hs:own'.Sublist own) (h:∀ w0,Mem w0 own ro→W P c Q n l own' ((w0,aZ own')::ro)):W P c Q n l own ro :=
  fun a w ha hw=>h w hw a w ha (hw.fix hs)
end
section
variable {P:Program} {n:Nat} {l:List (Nat×Value)} {own:List (Nat×Obj)} {ro:List au} {lops:List Oper} {Q:Exit→Act→World→Prop} {K:Act→World→Prop}
  {rest:List (Option Bool×Nat)} {k:Option Bool} {i d:Nat} {ty:TypeId} {pos:String} {af:Array Edge}
theorem nP {f:FuncId} {fn:Func} {xs:Array Operand} {tys:Array TypeId} {vs:List Value} {j dj:Nat} {want:Bool} (ho:lops[i]?=some ⟨some d,.call ⟨.value (.func f),xs,tys⟩,ty,pos,af,some (j,want)⟩) (hj:(lops[j]?).bind (·.dst)=some dj) (hb:l.lookup dj=some (.bool want)) (hk:(k == some true)=false) (hd:decide (d < n)=true)
    (hf:P.funcs[f]?=some fn) (hbody:(!(fn.name == "runtime.NumGoroutine") && fn.body.isSome)=true) (hx:ll l xs.toList=some vs) {R:Value→World→World→Prop}
    (hc:∀ w,Mem w own ro→Calls P f vs.toArray w fun e w'=>∃ v,e=.returned v∧Later w w'∧R v w w')
    (h:∀ v w1 w2,Mem w1 own ro→Later w1 w2→R v w1 w2→WX P lops.toArray Q K rest n ((d,v)::l) own ((w2,aZ own)::ro)):WX P lops.toArray Q K ((k,i)::rest) n l own ro :=
  jD (fst:=#[]) (cap:=#[]) ho (gZ rfl hj hb) rfl rfl hk hd rfl hf hbody hx (by simpa using hc) h
theorem x_cln {f:FuncId} {fn:Func} {xs:Array Operand} {tys:Array TypeId} {c:Operand} {vs:List Value} (ho:lops[i]?=some ⟨some d,.call ⟨.value c,xs,tys⟩,ty,pos,af,none⟩) (hk:(k == some true)=false) (hd:decide (d < n)=true)
    (hcal:ev l c=some (.func (.func f) #[] #[])) (hf:P.funcs[f]?=some fn) (hbody:(!(fn.name == "runtime.NumGoroutine") && fn.body.isSome)=true) (hx:ll l xs.toList=some vs) {R:Value→World→World→Prop}
    (hc:∀ w,Mem w own ro→Calls P f vs.toArray w fun e w'=>∃ v,e=.returned v∧Later w w'∧R v w w')
    (h:∀ v w1 w2,Mem w1 own ro→Later w1 w2→R v w1 w2→WX P lops.toArray Q K rest n ((d,v)::l) own ((w2,aZ own)::ro)):WX P lops.toArray Q K ((k,i)::rest) n l own ro :=
  jD (fst:=#[]) (cap:=#[]) ho (bS rfl) rfl rfl hk hd hcal hf hbody hx (by simpa using hc) h
end
def dy (w:World) (own:List (Nat×Obj)):Nat→Prop:=fun b=>w.heap.size≤b∧aZ own b
theorem aU.frz {w w0 ws:World} {own own' ownh:List (Nat×Obj)} {ro:List au} (h:Mem w0 own ro) (hsub:own'.Sublist own) (hs:(ws,aZ ownh)∈ro):aU (dy w ownh) (dy w own') ws w0 :=
  fun k hk hlt=>⟨⟨hk.1,fun p hp he=>by
    have h1:=h.apart p (hsub.subset hp) _ hs (by rw [he]; exact hk.2)
    simp only at h1; omega⟩,h.ro_at _ hs k hk.2 hlt⟩
theorem aU.made {w wa wb w0:World} {own own1:List (Nat×Obj)} {ro ro1:List au} (h:Mem w0 own ro) (hs:(wb,aZ own1)∈ro) (hm:Mem wa own1 ro1) (hw:w.heap.size≤wa.heap.size):aU (fun b=>wa.heap.size≤b) (dy w own) wb w0 :=
  fun k hk hlt=>⟨⟨Nat.le_trans hw hk,fun p hp he=>by
    have h1:=h.apart p hp _ hs (fun q hq e=>by have:=hm.lt hq; omega)
    simp only at h1; omega⟩,h.ro_at _ hs k (fun q hq e=>by have:=hm.lt hq; omega) hlt⟩
theorem aU.new {w w1 ws:World} {own own1:List (Nat×Obj)} {ro:List au} (h:Mem w1 own1 ro) (hs:(ws,aZ own)∈ro):aU (dy w own) (fun _=>True) ws w1 :=
  fun k hk hlt=>⟨trivial,h.ro_at _ hs k hk.2 hlt⟩
theorem aU.out {w w0 ws:World} {own ownh:List (Nat×Obj)} {ro:List au} (h:Mem w0 own ro) (hs:(ws,aZ ownh)∈ro):aU (dy w ownh) (fun b=>w.heap.size≤b) ws w0 :=
  fun k hk hlt=>⟨hk.1,h.ro_at _ hs k hk.2 hlt⟩
def cU {α:Type} (T:Ty α) (D:Nat→Prop) (ws:World) (r:ak) (xs:List α):Prop :=
  ∃ css:List (List Value),css.length=xs.length∧ag T.size r xs.length css.flatten∧∀ j (h1:j < css.length) (h2:j < xs.length),T.rd D ws css[j] xs[j]
section
variable {α:Type} {T:Ty α} {D D':Nat→Prop} {w ws w':World} {r r':ak} {xs:List α}
theorem cU.nil:cU T D ws none []:=⟨[],rfl,bE,fun j h1=>by simp at h1⟩
theorem cU.keep (h:cU T D ws r xs) (hk:aU D D' ws w'):cU T D' w' r xs:=by
  obtain ⟨css,h1,h2,h3⟩:=h
  exact ⟨css,h1,h2,fun j a b=>T.keep (h3 j a b) hk⟩
theorem snocT {css:List (List Value)} {cs:List Value} {x:α} (h1:css.length=xs.length) (h3:∀ j (h1:j < css.length) (h2:j < xs.length),T.rd D ws css[j] xs[j]) (hr:ag T.size r' (xs.length+1) (css.flatten++cs)) (hx:T.rd D ws cs x):cU T D ws r' (xs++[x]):=by
  refine ⟨css++[cs],by simp [h1],by simpa using hr,fun j a b=>?_⟩
  by_cases hj:j < css.length
  · rw [List.getElem_append_left hj,List.getElem_append_left (by omega)]; exact h3 j hj (by omega)
  · have hj2:j=css.length:=by simp at a; omega
    subst hj2
    rw [List.getElem_append_right (Nat.le_refl _),List.getElem_append_right (by omega)]
    simpa [h1] using hx
theorem nQ {n:Nat} {css:List (List Value)} {cs:List Value} {x:α} (hn:xs.length=n) (h1:css.length=n) (h3:∀ j (h1:j < css.length) (h2:j < xs.length),T.rd D ws css[j] xs[j]) (hr:ag T.size r' (n+1) (css.flatten++cs)) (hx:T.rd D ws cs x):cU T D ws r' (xs++[x]):=by
  subst hn; exact snocT h1 h3 hr hx
theorem g9 {m:Nat}:∀ (css:List (List Value)) (hl:∀ j (h:j < css.length),css[j].length=m) (j:Nat) (hj:j < css.length) (i:Nat),i < m→css.flatten[j*m+i]?=css[j][i]?
  | [],_,j,hj,_,_=>by simp at hj
  | x::xs,hl,0,_,i,hi=>by
    have h0:x.length=m:=hl 0 (by simp)
    rw [List.flatten_cons,List.getElem?_append_left (by rw [Nat.zero_mul,Nat.zero_add,h0]; exact hi)]; simp
  | x::xs,hl,j+1,hj,i,hi=>by
    have h0:x.length=m:=hl 0 (by simp)
    rw [List.flatten_cons,List.getElem?_append_right (by rw [h0,Nat.add_mul]; omega),h0,show (j+1)*m+i - m=j*m+i by rw [Nat.add_mul]; omega]
    exact g9 xs (fun k h=>hl (k+1) (by simpa using h)) j (by simpa using hj) i hi
theorem cU.rd {own:List (Nat×Obj)} {ro:List au} {e:TypeId} {v:Nat} (h:cU T D w r xs) (hm:Mem w own ro) (hin:∀ p∈aA e r,p∈own) (hD:∀ b,D b→D' b) (hb:∀ p∈aA e r,D' p.1) (hv:v=xs.length):aa T D' w (av r v) xs:=by
  subst hv
  obtain ⟨css,h1,⟨h2,h4⟩,h3⟩:=h
  cases r with
  | none =>
    simp only at h4
    exact ⟨none,0,by simp [av,jI,sW],by omega,by omega,fun h=>by omega⟩
  | some x =>
    obtain ⟨b,cs,c⟩:=x
    obtain ⟨h5,h6,h7,h8⟩:=h4
    simp only at h5 h6 h7 h8
    have hmem:(b,Obj.cells cs.toArray e (0,0))∈own:=hin _ (by simp [aA])
    have hbl:=hm.own_at _ hmem
    refine ⟨_,c,rfl,h5,by unfold maxLen at h6; omega,fun h0=>⟨b,0,rfl,hb (b,Obj.cells cs.toArray e (0,0)) (by simp [aA]),dO hbl,fun j hj=>⟨css[j],fun i hi=>?_,T.keep (h3 j (by omega) hj) (fun k hk _=>⟨hD k hk,rfl⟩)⟩⟩⟩
    have hlen:∀ k (hk:k < css.length),css[k].length=T.size:=fun k hk=>T.len (h3 k hk (by omega))
    have hi':i < T.size:=by rw [hlen] at hi; exact hi
    have h9:=g9 css hlen j (by omega) i hi'
    have h10:j*T.size+i < xs.length*T.size:=by
      have:(j+1)*T.size≤xs.length*T.size:=Nat.mul_le_mul_right _ (by omega)
      rw [Nat.add_mul] at this
      omega
    rw [Nat.zero_add,cell_of_row w b _ cs.toArray e (0,0) hbl,List.getElem?_toArray]
    rw [← h8,List.getElem?_take_of_lt h10] at h9
    rw [h9]
    exact List.getElem?_eq_getElem hi
theorem cU.len {v:Nat} (h:cU T D w r xs):xs.length≤maxLen:=by
  obtain ⟨css,h1,⟨h2,h4⟩,h3⟩:=h
  cases r with
  | none=>simp only at h4; omega
  | some x=>obtain ⟨b,cs,c⟩:=x; obtain ⟨h5,h6,_⟩:=h4; exact Nat.le_trans h5 h6
end
theorem wrap_rng (n:Int):-9223372036854775808≤IntKind.i64.wrap n∧IntKind.i64.wrap n≤9223372036854775807:=by rw [IntKind.wrap_i64]; omega
theorem Mem.newer {w w0:World} {own:List (Nat×Obj)} {ro:List au} (h:Mem w own ro) (hs:(w0,fun _=>True)∈ro) {p:Nat×Obj} (hp:p∈own):w0.heap.size≤p.1:=h.apart p hp _ hs trivial
theorem Mem.notIn {w:World} {own own' l1:List (Nat×Obj)} {ro:List au} (h:Mem w own ro) (hp:(l1++own').Sublist own) {p:Nat×Obj} (hm:p∈l1):aZ own' p.1:=fun q hq he=>by
  have hnd:=(hp.map (·.1)).nodup h.own_nd
  rw [List.map_append,List.nodup_append] at hnd
  exact hnd.2.2 p.1 (List.mem_map_of_mem hm) q.1 (List.mem_map_of_mem hq) he.symm
theorem Mem.notMid {w:World} {mid b:List (Nat×Obj)} {ro:List au} (a:List (Nat×Obj)) (h:Mem w (a++(mid++b)) ro) {p:Nat×Obj} (hp:p∈mid):aZ (a++b) p.1:=fun q hq he=>by
  have hnd:=h.own_nd
  rw [List.map_append,List.map_append,List.nodup_append,List.nodup_append] at hnd
  obtain ⟨_,⟨_,_,h3⟩,h4⟩:=hnd
  have hpm:p.1∈mid.map (·.1):=List.mem_map_of_mem hp
  rcases List.mem_append.1 hq with hq | hq
  · exact h4 q.1 (List.mem_map_of_mem hq) p.1 (List.mem_append_left _ hpm) he
  · exact h3 p.1 hpm q.1 (List.mem_map_of_mem hq) he.symm
theorem cU.plain {α:Type} {T:Ty α} {w:World} {mid b:List (Nat×Obj)} {ro:List au} {e:TypeId} {r:ak} {xs:List α} {w0 wx:World} {n:Nat} (a:List (Nat×Obj)) (h:cU T (fun _=>False) wx r xs) (hmid:mid=aA e r) (hm:Mem w (a++(mid++b)) ro) (hb:(w0,fun _=>True)∈ro) (hn:n=xs.length):aa T (dy w0 (a++b)) w (av r n) xs:=by
  subst hmid
  have h':cU T (fun _=>False) w r xs:=h.keep (fun k hk _=>hk.elim)
  exact h'.rd hm (fun p hp=>List.mem_append_right _ (List.mem_append_left _ hp)) (fun _ hx=>hx.elim) (fun p hp=>⟨hm.newer hb (List.mem_append_right _ (List.mem_append_left _ hp)),hm.notMid a hp⟩) hn
theorem eq {P:Program} {c:Code} {Q:Exit→Act→World→Prop} {n:Nat} (l:List (Nat×Value)) (own:List (Nat×Obj)) (ro:List au) (h:W P c Q n l own ro):W P c Q n l own ro:=h
theorem mul9 {j m a b:Int} (h1:0≤j∧j≤a) (h2:0≤m∧m≤b):0≤j*m∧j*m≤a*b :=
  ⟨Int.mul_nonneg h1.1 h2.1,Int.mul_le_mul h1.2 h2.2 h2.1 (by omega)⟩
end Go.PK

namespace Go.PK
open Go Go.RowKit
def tagL:List ByteArray:=[⟨#[48,48,49]⟩,⟨#[50,52,53]⟩,⟨#[49,48,48]⟩,⟨#[48,50,48]⟩,⟨#[54,53,48]⟩,⟨#[55,48,48]⟩,⟨#[50,54,48]⟩,⟨#[53,48,48]⟩,⟨#[57,48,48]⟩,⟨#[57,52,57]⟩,⟨#[48,48,56]⟩,⟨#[50,52,54]⟩,⟨#[54,48,48]⟩,⟨#[49,49,48]⟩,⟨#[52,57,48]⟩,⟨#[48,48,51]⟩,⟨#[57,122,57]⟩,⟨#[50,52]⟩,⟨#[57,57,57]⟩,⟨#[48]⟩]
def textL:List ByteArray:=[⟨#[69,109,109,97]⟩,⟨#[84,104,101,32,115,101,97]⟩,⟨#[195,156,98,101,114,32,100,101,110,32,70,108,117,195,159]⟩,⟨#[87,97,114,32,97,110,100,32,112,101,97,99,101]⟩,⟨#[119,97,114,32,38,32,80,69,65,67,69]⟩,⟨#[65,117,115,116,101,110,44,32,74,97,110,101]⟩,⟨#[84,111,108,115,116,111,121]⟩,⟨#[49,57,56,52]⟩,⟨#[57,55,56,48,51,48,54,52,48,54,49,53,55]⟩,⟨#[48,51,48,54,52,48,54,49,53,50]⟩,⟨#[76,111,110,100,111,110]⟩,⟨#[83,101,97,32,115,116,111,114,105,101,115]⟩,⟨#[65]⟩,⟨#[]⟩,⟨#[69,109,109,97,32,97,110,100,32,116,104,101,32,115,101,97]⟩,⟨#[49,57,57,57]⟩,⟨#[99,49,57,57,57,46]⟩,⟨#[82,105,118,101,114,115]⟩,⟨#[79,99,101,97,110,115,32,45,45,32,72,105,115,116,111,114,121]⟩,⟨#[112,101,97,99,101]⟩]
def indL:List ByteArray:=[⟨#[49,48]⟩,⟨#[32,32]⟩,⟨#[49,32]⟩,⟨#[48,48]⟩,⟨#[48,32]⟩,⟨#[32,48]⟩,⟨#[51,32]⟩,⟨#[49,50]⟩]
def pickS (l:List ByteArray) (n:Int):ByteArray:=l.getD (n%l.length).toNat ⟨#[]⟩
def we (n:Int):ByteArray:=pickS tagL n
def textOf (n:Int):ByteArray:=pickS textL n
structure I4 where
  a:Int
  b:Int
  c:Int
  d:Int
def aj (n:Int):Prop:=-9223372036854775808≤n∧n≤9223372036854775807
def I4.ok (x:I4):Prop:=aj x.a∧aj x.b∧aj x.c∧aj x.d
def I4.cells (x:I4):List Value:=[.int .i64 x.a,.int .i64 x.b,.int .i64 x.c,.int .i64 x.d]
def codesL:ByteArray:=⟨#[97,98,99,48,97,118,120,113]⟩
def madeSub (x:I4) (j:Nat):Sb:=⟨ad codesL ((x.c.tdiv 3+(j:Int)*(1+x.b%3))%8).toNat,textOf (IntKind.i64.wrap (x.d+3*(j:Int)))⟩
def madeF (x:I4):Fl :=
  if 1 < (we x.a).size∧(we x.a).extract 0 2=⟨#[48,48]⟩ then ⟨we x.a,⟨#[]⟩,textOf x.d,[]⟩
  else ⟨we x.a,pickS indL x.b,⟨#[]⟩,(List.range (1+(x.c%3).toNat)).map (madeSub x)⟩
def made (l:List I4):List Fl:=(l.take 20).map madeF
end Go.PK

namespace Go.PK
open Go Go.RowKit
theorem Mem.to {w:World} {own own':List (Nat×Obj)} {ro:List au} (h:Mem w own ro) (e:own=own'):Mem w own' ro:=e▸h
theorem me {P:Program} {w:World} (base:Nat) (t ty e:TypeId) (i:TypeInfo) (size c2:Nat) (ht:P.underlying t=some (.slice e)) (hi:P.info? e=some i)
    (v:Value) (n:Nat) (xs:List Value) (hown:w.ownsRow base e size v n xs) :
    (Builtin.append_ #[t,t] ty #[v,.slice none 0 c2]).run P w=.ok v w:=by
  rcases hown.2 with ⟨rfl,rfl⟩ | ⟨g,cap,cur,rfl,_,_,hnc,_⟩
  · simp [Builtin.append_,run_underlying ht,sizeOf,typeInfo,hi,Builtin.lenOf,Builtin.firstCells]
  · simp [Builtin.append_,run_underlying ht,sizeOf,typeInfo,hi,Builtin.lenOf,Builtin.firstCells,hnc,storeCells]
section
variable {P:Program} {n:Nat} {l:List (Nat×Value)} {own:List (Nat×Obj)} {ro:List au} {lops:List Oper} {Q:Exit→Act→World→Prop} {K:Act→World→Prop}
  {rest:List (Option Bool×Nat)} {k:Option Bool} {i d b off:Nat} {op:Op} {ty:TypeId} {pos:String} {af:Array Edge} {x y:Operand} {t t':TypeId}
theorem ga {e:TypeId} {z:Value} {size bytes m len c2:Nat} {ao:Option Addr} {xs news:List Value} (l1:List (Nat×Obj)) {l2:List (Nat×Obj)} (r:ak) (ho:lops[i]?=some ⟨some d,.call ⟨.builtin .append,#[x,y],#[t,t]⟩,ty,pos,af,none⟩) (hd:decide (d < n)=true)
    (hx:ev l x=some (av r len)) (hy:ev l y=some (.slice ao m c2)) (hown:own=l1++aA e r++l2) (hr:ag size r len xs)
    (ht:P.underlying t=some (.slice e)) (hi:(P.info? e).map (fun j=>(j.zero,j.size,j.bytes))=some (some z,size,bytes)) (hz:(decide (z.cells.size=size) && decide (0 < size))=true)
    (hl:news.length=m*size) (hno:ao=none→m=0) (hat:∀ w,Mem w own ro→∀ a,ao=some a→∀ j u,news[j]?=some u→w.cell? (a.add j)=some u) (h1:news.all (fun u=>u.oneCell')=true)
    (hb1:len+m≤maxLen) (hb2:(len+m)*bytes≤140737488355328)
    (h:∀ r',ag size r' (len+m) (xs++news)→WX P lops.toArray Q K rest n ((d,av r' (len+m))::l) (l1++aA e r'++l2) ro):WX P lops.toArray Q K ((none,i)::rest) n l own ro:=by
  intro a w ha hw
  have hd':d < n:=of_decide_eq_true hd
  have hw1:=bS (lops:=lops) (n:=n) (l:=l) (o:=⟨some d,.call ⟨.builtin .append,#[x,y],#[t,t]⟩,ty,pos,af,none⟩) rfl a ha
  simp only [gW,List.getElem?_toArray,ho]
  intro w' hl'
  rw [if_pos hw1]
  have hM0:=hw.later hl'
  have hat':=hat w' hM0
  subst hown
  have hM:=hM0
  obtain ⟨inf,hi1,hi2⟩:=Option.map_eq_some_iff.1 hi
  simp only [Prod.mk.injEq] at hi2
  obtain ⟨hiz,his,hib⟩:=hi2
  simp only [Bool.and_eq_true,decide_eq_true_eq] at hz
  unfold Oper.wp execOp
  cases ao with
  | none =>
    have hm0:=hno rfl
    subst hm0
    have hnews:news=[]:=List.eq_nil_of_length_eq_zero (by simpa using hl)
    subst hnews
    have hrun:=me (P:=P) (w:=w') 0 t ty e inf size c2 ht hi1 (av r len) len xs (lu (own:=[]) hM hr)
    simp only [resolve,invoke,builtin,Sem.run_bind,Sem.run_pure,Result.andThen_ok,List.map_toArray,List.map_cons,List.map_nil,ha.eval hx,ha.eval hy,hrun]
    exact h r (by simpa using hr) _ _ (ha.put _ hd') hM
  | some a0 =>
    obtain ⟨v',w2,hrun,h2,h3,_,h5⟩:=run_append_own_at (P:=P) w' 0 t ty e inf z size bytes ht hi1 hiz his hib hz.1 hz.2 (av r len) len xs (lu (own:=[]) hM hr) a0 m c2 news hl
      (hat' a0 rfl) (by simpa using h1) hb1 hb2 (Nat.zero_le _)
    obtain ⟨r',rfl,hok,hM2⟩:=hM.append h2 h3 h5
    simp only [resolve,invoke,builtin,Sem.run_bind,Sem.run_pure,Result.andThen_ok,List.map_toArray,List.map_cons,List.map_nil,ha.eval hx,ha.eval hy,hrun]
    exact h r' hok _ _ (ha.put _ hd') hM2
theorem kA {e:TypeId} {m:Nat} (ho:lops[i]?=some ⟨some d,.buildSlice t 0 #[],ty,pos,af,none⟩) (hk:(k == some true)=false) (hd:decide (d < n)=true)
    (ht:P.underlying t=some (.slice e)) (hs:(P.info? e).map (·.size)=some m)
    (h:∀ b,WX P lops.toArray Q K rest n ((d,.slice (some ⟨b,0,none⟩) 0 0)::l) ((b,.cells #[] e)::own) ro):WX P lops.toArray Q K ((k,i)::rest) n l own ro :=
  nJ (f:=fun b=>.slice (some ⟨b,0,none⟩) 0 0) ho (bS rfl) rfl hk hd (fun A w ha hw=>by
    simp [execOp,Instr.buildSlice,Sem.run_bind,run_underlying ht,Result.andThen_ok,run_sizeOf hs,Instr.fill,newRow,show ∀ g:Nat→Value,Array.map g (Array.range 0)=#[] from fun g=>Array.eq_empty_of_size_eq_zero (by simp)]) h
theorem jc {e:TypeId} {m c:Nat} (bs:List UInt8) (hs:P.underlying t=some (.slice e)) (he:P.underlying e=some (.int .u8)) (hd:P.underlying t'=some .string) (hx:ev l x=some (.slice (some ⟨b,off,none⟩) m c)) (hm:m=bs.length)
    (hc:∀ j (hj:j < bs.length),At own ro b (off+j) (.int .u8 bs[j].toNat)):cv P n l own ro (.convert t t' x) ty (.string ⟨bs.toArray⟩):=by
  intro A w o ha hw ho _
  subst hm
  have:=run_convert_bytes_back (P:=P) w t t' e ⟨b,off,none⟩ c bs hs he hd (fun j hj=>by rw [jb]; exact hc j hj w hw)
  simp [execOp,ho,ha.eval hx,this]
end
theorem aa.cells {α:Type} {T:Ty α} {D:Nat→Prop} {w:World} {A:Option Addr} {m c:Nat} {xs:List α} (h:aa T D w (.slice A m c) xs) :
    ∃ css:List (List Value),css.length=xs.length∧m=xs.length∧css.flatten.length=m*T.size∧(∀ j (h1:j < css.length) (h2:j < xs.length),T.rd D w css[j] xs[j])∧(A=none→m=0) ∧
      (∀ a,A=some a→∀ j u,css.flatten[j]?=some u→w.cell? (a.add j)=some u)∧(0 < xs.length→∃ b off,A=some ⟨b,off,none⟩∧D b∧b < w.heap.size):=by
  obtain ⟨A',c',e,h1,h2,h3⟩:=h
  injection e with e1 e2 e3
  subst e1 e2 e3
  cases xs with
  | nil=>exact ⟨[],rfl,rfl,by simp,fun j h=>by simp at h,fun _=>rfl,fun a _ j u hu=>by simp at hu,fun h=>by simp at h⟩
  | cons y ys =>
    obtain ⟨b,off,rfl,hD,hb,hc⟩:=h3 (by simp)
    have hc':∀ j:Fin (y::ys).length,∃ cs,(∀ i (hi:i < cs.length),w.cell? ⟨b,off+j.1*T.size+i,none⟩=some cs[i])∧T.rd D w cs (y::ys)[j.1]:=fun j=>hc j.1 j.2
    let f:Fin (y::ys).length→List Value:=fun j=>(hc' j).choose
    have hf:∀ j,(∀ i (hi:i < (f j).length),w.cell? ⟨b,off+j.1*T.size+i,none⟩=some (f j)[i])∧T.rd D w (f j) (y::ys)[j.1]:=fun j=>(hc' j).choose_spec
    have hlen:∀ j (h:j < (List.ofFn f).length),(List.ofFn f)[j].length=T.size:=fun j h=>by
      rw [List.getElem_ofFn]; exact T.len (hf _).2
    have htot:(List.ofFn f).flatten.length=(y::ys).length*T.size:=by
      rw [List.length_flatten]
      have:(List.ofFn f).map List.length=List.replicate (y::ys).length T.size:=by
        apply List.ext_getElem
        · simp
        · intro j h1 h2
          rw [List.getElem_map,List.getElem_replicate]
          exact hlen j (by simpa using h1)
      rw [this]; simp
    refine ⟨List.ofFn f,by simp,rfl,htot,fun j h1 h2=>?_,(fun h=>by cases h),fun a ha j u hu=>?_,fun _=>⟨b,off,rfl,hD,hb⟩⟩
    · rw [List.getElem_ofFn]; exact (hf ⟨j,h2⟩).2
    · obtain rfl:=Option.some.inj ha
      have hj:j < (y::ys).length*T.size:=by
        rw [← htot]; exact (List.getElem?_eq_some_iff.1 hu).1
      have hs0:0 < T.size:=by
        rcases Nat.eq_zero_or_pos T.size with h0 | h0
        · rw [h0] at hj; omega
        · exact h0
      have hq:j / T.size < (y::ys).length:=Nat.div_lt_of_lt_mul (by rw [Nat.mul_comm]; exact hj)
      have hr:j%T.size < T.size:=Nat.mod_lt _ hs0
      have hjd:j / T.size*T.size+j%T.size=j:=by rw [Nat.mul_comm]; exact Nat.div_add_mod j T.size
      have hg:=g9 (List.ofFn f) hlen (j / T.size) (by simpa using hq) (j%T.size) hr
      rw [hjd,List.getElem_ofFn] at hg
      have hfl:(f ⟨j / T.size,hq⟩).length=T.size:=T.len (hf _).2
      have hx:=List.getElem?_eq_getElem (l:=f ⟨j / T.size,hq⟩) (i:=j%T.size) (by rw [hfl]; exact hr)
      rw [hx] at hg
      rw [hg] at hu
      obtain rfl:=Option.some.inj hu
      have:=(hf ⟨j / T.size,hq⟩).1 (j%T.size) (by rw [hfl]; exact hr)
      rw [jb,← this,Nat.add_assoc,hjd]
def sbC (s:Sb):List Value:=[.int .u8 s.code.toNat,.string s.text]
def px (f:Fl) (S:ak):List Value:=[.string f.tag,.string f.ind,.string f.data,av S f.subs.length]
def Fl.good (f:Fl):Prop:=f.ok∧∀ s∈f.subs,iw s.text
structure DeepOK (R:ak) (Ss:List ak) (fs:List Fl):Prop where
  len:Ss.length=fs.length
  row:ag 4 R fs.length (List.zipWith px fs Ss).flatten
  subs:∀ j (h1:j < Ss.length) (h2:j < fs.length),ag 2 Ss[j] fs[j].subs.length (fs[j].subs.flatMap sbC)
  ok:∀ f∈fs,f.good
def subsO (Ss:List ak):List (Nat×Obj):=Ss.reverse.flatMap (aA 48)
theorem DeepOK.nil:DeepOK none [] []:=⟨rfl,bE,fun j h=>by simp at h,by simp⟩
theorem uQ {fs:List Fl} {Ss:List ak} (h:Ss.length=fs.length):(List.zipWith px fs Ss).length=fs.length:=by rw [List.length_zipWith,h,Nat.min_self]
theorem DeepOK.snoc {R R' S:ak} {Ss:List ak} {fs:List Fl} {f:Fl} {n:Nat} (h:DeepOK R Ss fs) (hn:n=fs.length) (hr:ag 4 R' (n+1) ((List.zipWith px fs Ss).flatten++px f S)) (hs:ag 2 S f.subs.length (f.subs.flatMap sbC)) (hok:f.good):DeepOK R' (Ss++[S]) (fs++[f]) where
  len:=by simp [h.len]
  row:=by
    subst hn
    rw [List.zipWith_append h.len.symm]
    simpa using hr
  subs:=fun j h1 h2=>by
    by_cases hj:j < Ss.length
    · have hj2:j < fs.length:=by rw [← h.len]; exact hj
      rw [List.getElem_append_left hj]
      simp only [List.getElem_append_left hj2]
      exact h.subs j hj hj2
    · have hj2:j=fs.length:=by have:=h.len; simp at h1 h2; omega
      subst hj2
      rw [List.getElem_append_right (by omega)]
      simp only [List.getElem_append_right (Nat.le_refl _)]
      simpa [h.len] using hs
  ok:=fun g hg=>by
    rcases List.mem_append.1 hg with hg | hg
    · exact h.ok g hg
    · rw [List.mem_singleton.1 hg]; exact hok
end Go.PK

namespace Go.PK
open Go Go.RowKit
theorem jJ {m:Nat}:∀ (css:List (List Value)) (hl:∀ j (h:j < css.length),css[j].length=m) (n:Nat) (hn:n < css.length) (x:List Value),
    (css.set n x).flatten=css.flatten.take (n*m)++x++css.flatten.drop (n*m+m)
  | [],_,n,hn,_=>by simp at hn
  | c::css,hl,0,hn,x=>by
    have h0:c.length=m:=hl 0 (by simp)
    rw [List.set_cons_zero,List.flatten_cons,List.flatten_cons,Nat.zero_mul,Nat.zero_add,List.take_zero,List.nil_append,← h0,List.drop_left]
  | c::css,hl,n+1,hn,x=>by
    have h0:c.length=m:=hl 0 (by simp)
    have e:(n+1)*m=c.length+n*m:=by rw [Nat.add_mul,h0]; omega
    rw [List.set_cons_succ,List.flatten_cons,List.flatten_cons,jJ css (fun k h=>hl (k+1) (by simpa using h)) n (by simpa using hn) x,e,Nat.add_assoc,List.take_length_add_append,List.drop_length_add_append]
    simp [List.append_assoc]
theorem rn (f:Fl) (S:ak):(px f S).length=4:=rfl
theorem zw_get {fs:List Fl} {Ss:List ak} {j:Nat} (h1:j < fs.length) (h2:j < Ss.length) (h:j < (List.zipWith px fs Ss).length):(List.zipWith px fs Ss)[j]=px fs[j] Ss[j]:=List.getElem_zipWith
theorem zw_m {fs:List Fl} {Ss:List ak} (j:Nat) (h:j < (List.zipWith px fs Ss).length):(List.zipWith px fs Ss)[j].length=4:=by rw [List.getElem_zipWith]; rfl
theorem zw_flat {fs:List Fl} {Ss:List ak} (h:Ss.length=fs.length):(List.zipWith px fs Ss).flatten.length=fs.length*4:=by
  rw [List.length_flatten]
  have:(List.zipWith px fs Ss).map List.length=List.replicate fs.length 4:=by
    apply List.ext_getElem
    · simp [h]
    · intro j h1 h2
      rw [List.getElem_map,List.getElem_replicate]
      exact zw_m j (by simpa using h1)
  rw [this]; simp
theorem DeepOK.there {R:ak} {Ss:List ak} {fs:List Fl} (h:DeepOK R Ss fs) (hl:0 < fs.length):∃ b cs c,R=some (b,cs,c)∧fs.length≤c∧c≤maxLen∧cs.length=c*4∧cs.take (fs.length*4)=(List.zipWith px fs Ss).flatten:=by
  obtain ⟨h1,h2⟩:=h.row
  cases R with
  | none=>simp only at h2; omega
  | some x=>obtain ⟨b,cs,c⟩:=x; obtain ⟨h3,h4,h5,h6⟩:=h2; exact ⟨b,cs,c,rfl,h3,h4,h5,h6⟩
theorem DeepOK.at {b c:Nat} {cs:List Value} {Ss:List ak} {fs:List Fl} (h:DeepOK (some (b,cs,c)) Ss fs) {n:Nat} (h1:n < fs.length) (h2:n < Ss.length) {i:Nat} (hi:i < 4):cs[n*4+i]?=(px fs[n] Ss[n])[i]?:=by
  obtain ⟨b',cs',c',e,h3,h4,h5,h6⟩:=h.there (by omega)
  injection e with e; injection e with e1 e2; injection e2 with e2 e3; subst e1 e2 e3
  have hz:=uQ h.len
  have:=g9 (m:=4) (List.zipWith px fs Ss) (fun j h=>zw_m j h) n (by omega) i hi
  rw [zw_get h1 h2,← h6,List.getElem?_take_of_lt (by omega)] at this
  exact this
theorem DeepOK.set {b c:Nat} {cs:List Value} {Ss:List ak} {fs:List Fl} (h:DeepOK (some (b,cs,c)) Ss fs) {n:Nat} (h1:n < fs.length) {g:Fl} {S:ak} (hs:ag 2 S g.subs.length (g.subs.flatMap sbC)) (hg:g.good) :
    DeepOK (some (b,cs.take (n*4)++px g S++cs.drop (n*4+4),c)) (Ss.set n S) (fs.set n g):=by
  obtain ⟨b',cs',c',e,h3,h4,h5,h6⟩:=h.there (by omega)
  injection e with e; injection e with e1 e2; injection e2 with e2 e3; subst e1 e2 e3
  have hz:=uQ h.len
  have hfl:=zw_flat h.len
  have h2:n < Ss.length:=by rw [h.len]; exact h1
  have hzs:List.zipWith px (fs.set n g) (Ss.set n S)=(List.zipWith px fs Ss).set n (px g S):=by
    apply List.ext_getElem
    · simp
    · intro j a1 a2
      rw [List.getElem_zipWith,List.getElem_set,List.getElem_set,List.getElem_set]
      split
      · rfl
      · rw [List.getElem_zipWith]
  refine ⟨by simp [h.len],⟨?_,?_⟩,fun j a1 a2=>?_,fun f hf=>?_⟩
  · rw [hzs,jJ (m:=4) _ (fun j h=>zw_m j h) n (by omega)]
    simp only [List.length_append,List.length_take,List.length_drop,hfl,rn,List.length_set]
    omega
  · have hcs:cs=(List.zipWith px fs Ss).flatten++cs.drop (fs.length*4):=by rw [← h6,List.take_append_drop]
    refine ⟨by simpa using h3,h4,?_,?_⟩
    · simp only [List.length_append,List.length_take,List.length_drop,rn]; omega
    · rw [List.length_set,hzs,jJ (m:=4) _ (fun j h=>zw_m j h) n (by omega)]
      generalize (List.zipWith px fs Ss).flatten=F at hcs hfl
      generalize cs.drop (fs.length*4)=G at hcs
      have e1:List.take (n*4) (F++G)=F.take (n*4):=List.take_append_of_le_length (by omega)
      have e2:List.drop (n*4+4) (F++G)=F.drop (n*4+4)++G:=List.drop_append_of_le_length (by omega)
      rw [hcs,e1,e2,← List.append_assoc]
      exact List.take_left' (by simp only [List.length_append,List.length_take,List.length_drop,rn]; omega)
  · simp only [List.length_set] at a1 a2
    by_cases hj:n=j
    · subst hj
      simp only [List.getElem_set_self]; exact hs
    · simp only [List.getElem_set_ne hj]
      exact h.subs j a1 a2
  · rcases List.mem_or_eq_of_mem_set hf with hf | rfl
    · exact h.ok f hf
    · exact hg
theorem subs_rd {own:List (Nat×Obj)} {ro:List au} {w:World} {D:Nat→Prop} {S:ak} {xs:List Sb} (hr:ag 2 S xs.length (xs.flatMap sbC)) (hok:∀ s∈xs,iw s.text) (hm:Mem w own ro) (hin:∀ p∈aA 48 S,p∈own) (hD:∀ p∈own,D p.1):aa tySb D w (av S xs.length) xs:=by
  have h:cU tySb (fun _=>False) w S xs:=⟨xs.map sbC,by simp,by rw [← List.flatMap_def]; exact hr,fun j a1 a2=>by
    rw [List.getElem_map]; exact ⟨rfl,hok _ (List.getElem_mem a2)⟩⟩
  exact h.rd hm hin (fun _ hx=>hx.elim) (fun p hp=>hD p (hin p hp)) rfl
theorem DeepOK.rd {own:List (Nat×Obj)} {ro:List au} {w:World} {D:Nat→Prop} {R:ak} {Ss:List ak} {fs:List Fl} (h:DeepOK R Ss fs) (hm:Mem w own ro) (hR:∀ p∈aA 46 R,p∈own) (hS:∀ p∈subsO Ss,p∈own) (hD:∀ p∈own,D p.1):aa tyFl D w (av R fs.length) fs:=by
  have hz:=uQ h.len
  have hT:cU tyFl D w R fs:=⟨List.zipWith px fs Ss,hz,h.row,fun j a1 a2=>by
    have a3:j < Ss.length:=by rw [h.len]; exact a2
    rw [zw_get a2 a3]
    refine ⟨_,rfl,(h.ok _ (List.getElem_mem a2)).1,subs_rd (h.subs j a3 a2) (h.ok _ (List.getElem_mem a2)).2 hm (fun p hp=>hS p ?_) hD⟩
    unfold subsO
    exact List.mem_flatMap.2 ⟨Ss[j],List.mem_reverse.2 (List.getElem_mem a3),hp⟩⟩
  exact hT.rd hm hR (fun _ h=>h) (fun p hp=>hD p (hR p hp)) rfl
end Go.PK

namespace Go.PK
open Go Go.ChangeShapes Go.WideShapes Go.ChangeAt Go.RowKit
section
variable {H:Type} {enc:TypeId×Value→H} {P:Program} {W W':World}
theorem uR (hl:PK.Later W W') {p:MemPlace} (hp:p.block < W.heap.size):W.sameAt W' p:=Below.same hl hp
theorem nR {T:TypeId→Prop} (K:Kids P T) (hz:∀ t e,T t→P.underlying t=some (.slice e)→0 < P.cellsOf e) {sp:Nat→Bool} (hl:PK.Later W W'):∀ {ts:List TypeId} {vs:List Value} {ds:List (DataW H)} {ps:List MemPlace},(∀ t∈ts,T t) →
    DataW.TrodAll enc P W 0 (fun _=>true) true ts vs ds ps→(∀ p∈ps,p.block < W.heap.size)→(∀ p∈ps,sp p.block=true)→DataW.TrodAll enc P W' 0 sp true ts vs ds ps
  | [],[],[],_,_,h,_,_=>h
  | _::_,_::_,_::_,_,hT,⟨p,q,h1,h2,e⟩,hlt,hs =>
    ⟨p,q,by
      obtain ⟨n,hn⟩:=h1.respare K hz (hT _ (List.mem_cons.2 (Or.inl rfl))) (fun x hx=>hs x (by rw [e]; exact List.mem_append_left _ hx))
      exact ⟨n,DataW.trod_carry n _ _ _ hn (fun x hx=>uR hl (hlt x (by rw [e]; exact List.mem_append_left _ hx)))⟩,
      nR K hz hl (fun t ht=>hT t (List.mem_cons.2 (Or.inr ht))) h2 (fun x hx=>hlt x (by rw [e]; exact List.mem_append_right _ hx)) (fun x hx=>hs x (by rw [e]; exact List.mem_append_right _ hx)),e⟩
theorem pI {f:Func} {s:ChangeSpec} {apart fresh handsOn again:Bool} {args:Array Value} {v:Value} {ds gs:List (DataW H)} {before pa pv:List MemPlace}
    (hW:DataW.Whole enc P f.params.toList s.vars apart W args.toList ds gs before)
    (hres:∀ (b:Nat) (sp:Nat→Bool) (hd:Bool),DataW.TrodAll enc P W' b sp hd f.resultTypes.toList (v.resultList f.resultTypes.size) (s.fn H (ds++gs)).results [])
    (hargs:∀ sp:Nat→Bool,(∀ p∈before,sp p.block=true)→DataW.TrodAll enc P W' 0 sp true f.params.toList args.toList (s.fn H (ds++gs)).args pa)
    (hvars:∀ sp:Nat→Bool,(∀ p∈before,sp p.block=true)→DataW.TrodVars enc P W' sp s.vars (s.fn H (ds++gs)).vars pv)
    (hps:before=pa++pv) (hl:PK.Later W W')
    (hok:∀ (j:Nat) (t:TypeId) (r:Value),f.resultTypes[j]?=some t→(v.resultList f.resultTypes.size)[j]?=some r→Value.okWide P W' .any 0 t r) :
    s.post enc P f apart fresh handsOn again W args v W':=by
  have hold:∀ p∈before,(fun b=>decide (b < W.heap.size)) p.block=true:=fun p hp=>by simpa using hW.lt p hp
  have hlt:=fun p hp=>hW.lt p hp
  refine ⟨ds,gs,before,[],pa,pv,hW,hres _ _ _,hargs _ hold,hvars _ hold,hl.frame _,fun _=>?_⟩
  · obtain ⟨_,_,_,_,_,hz,hn⟩:=hW
    refine ⟨hok,_,_,([]++pa)++pv,⟨[]++pa,pv,trodAll_append (hargs _ (fun _ _=>rfl)) (hres _ _ _),hvars _ (fun _ _=>rfl),rfl,?_,?_⟩,?_⟩
    · intro b off hp
      have hp':=hp
      rw [List.nil_append,← hps] at hp'
      rw [Below.frozen hl (hlt _ hp')]
      exact hz b off hp'
    · intro ha
      have:=hn ha
      rw [hps] at this
      simpa using this
    · intro p hp _
      rw [hps]
      simpa using hp
theorem post_true {f:Func} {s:ChangeSpec} {apart fresh handsOn again:Bool} {args:Array Value} {ds:List (DataW H)} {before:List MemPlace} {tb:TypeId}
    (hK:laidOutB P=true) (hm:mapsRowed P=true) (hsl:((List.range P.types.size).all fun t=>match P.underlying t with | some (.slice e)=>decide (0 < P.cellsOf e) | _=>true)=true)
    (hts:(f.params.toList.all fun t=>decide (t < P.types.size))=true) (hrt:f.resultTypes=#[tb]) (hb:P.underlying tb=some .bool) (hv:s.vars=[])
    (hW:DataW.Whole enc P f.params.toList s.vars apart W args.toList ds [] before) (hfn:s.fn H ds={ results:=[.lit (.bool true)],args:=ds }) (hl:PK.Later W W') :
    s.post enc P f apart fresh handsOn again W args (.bool true) W':=by
  have hW':=hW
  have hlt:∀ p∈before,p.block < W.heap.size:=fun p hp=>hW.lt p hp
  obtain ⟨p,q,hA,hV,hpq,hfz,hnd⟩:=hW
  rw [hv] at hV
  obtain ⟨_,rfl⟩:=trodVars_none hV
  rw [List.append_nil] at hpq
  subst hpq
  refine pI (pa:=before) (pv:=[]) hW' (fun _ _ _=>?_) (fun sp hsp=>?_) (fun _ _=>?_) (by simp) hl (ok_one hrt rfl (okWide_bool_mk hb _))
  · rw [List.append_nil,hfn,hrt]; exact trodAll_cons_mk (shut_bool hb _) trodAll_mk0
  · rw [List.append_nil,hfn]
    exact nR (kids_rows hK hm) (slices_full_of P hsl) hl (fun t ht=>of_decide_eq_true (List.all_eq_true.1 hts t ht)) hA hlt hsp
  · rw [List.append_nil,hfn,hv]; exact rfl
structure Rdr {α:Type} (P:Program) (t:TypeId) (T:Ty α):Prop where
  size:P.cellsOf t=T.size
  pos:0 < T.size
  rd:∀ {H:Type} {enc:TypeId×Value→H} {w:World} {base:Nat} {sp:Nat→Bool} {held:Bool} {fuel:Nat} {cs:List Value} {x:DataW H×List MemPlace},DataW.trod enc P w base sp held fuel t cs=some x→∃ y,T.rd (fun _=>True) w cs y
theorem wf_in64 {n:Int} (h:(Lit.int .i64 n).wf=true):aj n:=by
  simp only [Lit.wf,Bool.and_eq_true,decide_eq_true_eq] at h
  have h1:IntKind.i64.min=-9223372036854775808:=by decide
  have h2:IntKind.i64.max=9223372036854775807:=by decide
  unfold aj; omega
def iV:Ty Int where
  size:=1
  rd:=fun _ _ cs x=>cs=[.int .i64 x]∧aj x
  len:=fun h=>by rw [h.1]; rfl
  keep:=fun h _=>h
theorem wh {t:TypeId} (ht:P.underlying t=some (.int .i64)) (hc:P.cellsOf t=1):Rdr P t iV :=
  ⟨hc,Nat.one_pos,fun h=>by obtain ⟨n,rfl,_,hw⟩:=DataW.trod_int ht h; exact ⟨n,rfl,wf_in64 hw⟩⟩
theorem trod_rd {α:Type} {T:Ty α} {t e:TypeId} {fuel base:Nat} {sp:Nat→Bool} {held:Bool} {w:World} {cs:List Value} {x:DataW H×List MemPlace} (ht:P.underlying t=some (.slice e)) (R:Rdr P e T) (h:DataW.trod enc P w base sp held fuel t cs=some x) :
    ∃ v xs,cs=[v]∧aa T (fun _=>True) w v xs∧∃ a l c,v=.slice a l c:=by
  rcases Go.Deep.open_slice ht h with ⟨rfl,_⟩ | ⟨a,len,cap,m,n,D,Pl,rfl,hb,hl,hm,hmm,_,hx⟩
  · exact ⟨_,[],rfl,⟨none,0,rfl,Nat.le_refl _,Nat.zero_le _,fun h=>by simp at h⟩,_,_,_,rfl⟩
  · have hlm:len≤m:=by rw [hmm]; split <;> omega
    have hx':∀ i,i < len→∃ p:List Value×α,w.cells? base (a.add (i*P.cellsOf e)) (P.cellsOf e)=some p.1∧T.rd (fun _=>True) w p.1 p.2:=fun i hi=>by
      obtain ⟨cs',h1,h2⟩:=hx i (by omega)
      obtain ⟨y,hy⟩:=R.rd h2
      exact ⟨⟨cs',y⟩,h1,hy⟩
    rcases Nat.eq_zero_or_pos len with h0 | h0
    · subst h0
      exact ⟨_,[],rfl,⟨some a,cap,rfl,Nat.zero_le _,Nat.zero_le _,fun h=>by simp at h⟩,_,_,_,rfl⟩
    · have hspot:a.spot=none:=by
        obtain ⟨p,h1,h2⟩:=hx' 0 h0
        have hpl:0 < P.cellsOf e:=by rw [R.size]; exact R.pos
        unfold World.cells? at h1
        split at h1
        · have:=mapM_some_get h1 0 0 (by rw [List.getElem?_range hpl])
          have hlen:p.1.length=P.cellsOf e:=by simpa using mapM_some_length h1
          rw [List.getElem?_eq_getElem (by omega)] at this
          have e0:(a.add (0*P.cellsOf e)).add 0=a:=by simp [Addr.add]
          rw [e0] at this
          unfold World.cell? at this
          split at this
          · split at this
            · cases this
            · rename_i hns; simpa using hns
          · cases this
        · cases h1
      obtain ⟨b,off,sp'⟩:=a
      simp only at hspot
      subst hspot
      let F:(i:Nat)→(i < len)→List Value×α:=fun i hi=>(hx' i hi).choose
      have hF:∀ i (hi:i < len),w.cells? base ((⟨b,off,none⟩:Addr).add (i*P.cellsOf e)) (P.cellsOf e)=some (F i hi).1∧T.rd (fun _=>True) w (F i hi).1 (F i hi).2:=fun i hi=>(hx' i hi).choose_spec
      refine ⟨_,List.ofFn (fun i:Fin len=>(F i.1 i.2).2),rfl,⟨_,cap,by rw [List.length_ofFn],by rw [List.length_ofFn]; exact hl,by rw [List.length_ofFn]; unfold maxLen at hm; omega,fun _=>⟨b,off,rfl,trivial,?_,fun j hj=>?_⟩⟩,_,_,_,rfl⟩
      · obtain ⟨h1,h2⟩:=hF 0 h0
        have hpl:0 < P.cellsOf e:=by rw [R.size]; exact R.pos
        unfold World.cells? at h1
        split at h1
        · have:=mapM_some_get h1 0 0 (by rw [List.getElem?_range hpl])
          have hlen:(F 0 h0).1.length=P.cellsOf e:=by simpa using mapM_some_length h1
          rw [List.getElem?_eq_getElem (by omega)] at this
          have:=em this
          simpa [Addr.add] using this
        · cases h1
      · have hj':j < len:=by simpa using hj
        obtain ⟨h1,h2⟩:=hF j hj'
        refine ⟨(F j hj').1,fun i hi=>?_,by simpa using h2⟩
        unfold World.cells? at h1
        split at h1
        · have hlen:(F j hj').1.length=P.cellsOf e:=by simpa using mapM_some_length h1
          have:=mapM_some_get h1 i i (by rw [List.getElem?_range (by omega)])
          rw [List.getElem?_eq_getElem hi,jb,jb,R.size] at this
          exact this
        · cases h1
end
section
variable {H:Type} {enc:TypeId×Value→H} {P:Program} {W:World} {base b0:Nat} {sp:Nat→Bool} {held:Bool} {r:Reach} {t e:TypeId} {v:Value} {d:DataW H} {ps:List MemPlace}
theorem top_slice {α:Type} {T:Ty α} (ht:P.underlying t=some (.slice e)) (R:Rdr P e T) (hval:Value.okWide P W r b0 t v) (h:DataW.Trod enc P W base sp held t v d ps):∃ xs,aa T (fun _=>True) W v xs:=by
  obtain ⟨n,hn⟩:=h
  obtain ⟨v',xs,hc,hrd,a,l,c,rfl⟩:=trod_rd ht R hn
  have:v=.slice a l c:=by
    cases v <;> simp_all [Value.okWide,Cell.okWide,Cell.ok,Value.cells]
  subst this
  exact ⟨xs,hrd⟩
end
end Go.PK

namespace Go.PK
open Go Go.ChangeShapes Go.WideShapes Go.ChangeAt Go.RowKit
section
variable {H:Type} {enc:TypeId×Value→H} {P:Program} {W:World} {base b0:Nat} {sp:Nat→Bool} {held:Bool} {r:Reach} {t e:TypeId} {v:Value} {d:DataW H} {ps:List MemPlace}
end
end Go.PK

namespace Go.PK
open Go Go.RowKit
def wj:Ty Unit where
  size:=0
  rd:=fun _ _ cs _=>cs=[]
  len:=fun h=>by rw [h]; rfl
  keep:=fun h _=>h
def jK {α β:Type} (T:Ty α) (U:Ty β):Ty (α×β) where
  size:=T.size+U.size
  rd:=fun D w cs x=>∃ a b,cs=a++b∧T.rd D w a x.1∧U.rd D w b x.2
  len:=fun ⟨a,b,h,h1,h2⟩=>by rw [h,List.length_append,T.len h1,U.len h2]
  keep:=fun ⟨a,b,h,h1,h2⟩ k=>⟨a,b,h,T.keep h1 k,U.keep h2 k⟩
def Ty.map {α β:Type} (T:Ty α) (f:α→β):Ty β where
  size:=T.size
  rd:=fun D w cs y=>∃ x,T.rd D w cs x∧f x=y
  len:=fun ⟨x,h,_⟩=>T.len h
  keep:=fun ⟨x,h,e⟩ k=>⟨x,T.keep h k,e⟩
def tyK (k:IntKind):Ty Int where
  size:=1
  rd:=fun _ _ cs x=>cs=[.int k x]∧k.min≤x∧x≤k.max
  len:=fun h=>by rw [h.1]; rfl
  keep:=fun h _=>h
def qe {α:Type} (T:Ty α):Nat→Ty (List α)
  | 0=>wj.map fun _=>[]
  | n+1=>(jK T (qe T n)).map fun p=>p.1::p.2
theorem kJ {α:Type} (T:Ty α):∀ n,(qe T n).size=n*T.size
  | 0=>by rw [Nat.zero_mul]; rfl
  | n+1=>by
    show T.size+(qe T n).size=_
    rw [kJ T n,Nat.succ_mul,Nat.add_comm]
theorem arr_k {k:IntKind} {D:Nat→Prop} {w:World}:∀ {n:Nat} {cs:List Value} {xs:List Int},(qe (tyK k) n).rd D w cs xs→cs=xs.map (Value.int k)∧xs.length=n∧∀ x∈xs,k.min≤x∧x≤k.max
  | 0,cs,xs,h=>by
    obtain ⟨x,h1,h2⟩:=h
    subst h2
    exact ⟨h1,rfl,by simp⟩
  | n+1,cs,xs,h=>by
    obtain ⟨⟨a,aas⟩,⟨ca,cb,h0,h1,h2⟩,h3⟩:=h
    obtain ⟨h4,h5,h6⟩:=arr_k h2
    obtain ⟨h1,hb⟩:ca=[.int k a]∧k.min≤a∧a≤k.max:=h1
    subst h3
    dsimp only at h4 h5 h6
    refine ⟨by rw [h0,h1,h4]; rfl,by simp [h5],fun x hx=>?_⟩
    rcases List.mem_cons.1 hx with rfl | hx
    · exact hb
    · exact h6 x hx
section
variable {P:Program}
theorem wf_k {k:IntKind} {n:Int} (h:(Lit.int k n).wf=true):k.min≤n∧n≤k.max:=by
  simpa only [Lit.wf,Bool.and_eq_true,decide_eq_true_eq] using h
theorem rdr_k {t:TypeId} {k:IntKind} (ht:P.underlying t=some (.int k)) (hc:P.cellsOf t=1):Rdr P t (tyK k) :=
  ⟨hc,Nat.one_pos,fun h=>by obtain ⟨n,rfl,_,hw⟩:=DataW.trod_int ht h; exact ⟨n,rfl,wf_k hw⟩⟩
theorem arr_of {α:Type} {T:Ty α} {w:World}:∀ (n:Nat) (cs:List Value),cs.length=n*T.size→(∀ i,i < n→∃ y,T.rd (fun _=>True) w ((cs.drop (i*T.size)).take T.size) y)→∃ ys,(qe T n).rd (fun _=>True) w cs ys
  | 0,cs,hl,_=>⟨[],(),List.eq_nil_of_length_eq_zero (by rw [hl,Nat.zero_mul]),rfl⟩
  | n+1,cs,hl,h=>by
    obtain ⟨y,hy⟩:=h 0 (Nat.succ_pos n)
    rw [Nat.zero_mul,List.drop_zero] at hy
    obtain ⟨ys,hys⟩:=arr_of (T:=T) (w:=w) n (cs.drop T.size) (by rw [List.length_drop,hl,Nat.succ_mul]; omega) (fun i hi=>by
      obtain ⟨z,hz⟩:=h (i+1) (by omega)
      rw [Nat.succ_mul,Nat.add_comm,← List.drop_drop] at hz
      exact ⟨z,hz⟩)
    exact ⟨y::ys,(y,ys),⟨_,_,(List.take_append_drop T.size cs).symm,hy,hys⟩,rfl⟩
theorem rdr_arr {α:Type} {T:Ty α} {t e:TypeId} {n:Nat} (ht:P.underlying t=some (.array n e)) (hc:P.cellsOf t=n*T.size) (hn:0 < n) (R:Rdr P e T):Rdr P t (qe T n) :=
  ⟨by rw [kJ]; exact hc,by rw [kJ]; exact Nat.mul_pos hn R.pos,@fun H enc w base sp held fuel cs x h=>by
    obtain ⟨xs,m,_,_,hl,hx,hh⟩:=DataW.trod_array ht h
    refine arr_of n cs (by rw [hl,hc]) fun i hi=>?_
    have h1:=hh i hi
    rw [List.getElem?_eq_getElem (by omega),R.size] at h1
    exact R.rd h1⟩
inductive Flds (P:Program):Nat→List Field→(β:Type)→Ty β→Prop where
  | nil (off:Nat):Flds P off [] Unit wj
  | cons {α β:Type} {T:Ty α} {U:Ty β} {off:Nat} {f:Field} {fs:List Field} (ho:f.offset=off) (R:Rdr P f.type T) (h:Flds P (off+T.size) fs β U):Flds P off (f::fs) (α×β) (jK T U)
theorem flds_of {H:Type} {enc:TypeId×Value→H} {w:World} {base m:Nat} {sp:Nat→Bool} {held:Bool} {cs:List Value} {off:Nat} {fs:List Field} {β:Type} {U:Ty β} (F:Flds P off fs β U) :
    (∀ f∈fs,∃ x,DataW.trod enc P w base sp held m f.type ((cs.drop f.offset).take (P.cellsOf f.type))=some x)→cs.length=off+U.size→∃ y,U.rd (fun _=>True) w (cs.drop off) y:=by
  induction F with
  | nil off=>exact fun _ hl=>⟨(),List.drop_eq_nil_of_le (by rw [hl]; exact Nat.le_refl _)⟩
  | @cons α β T U off f fs ho R F ih =>
    intro h hl
    have hl:cs.length=off+(T.size+U.size):=hl
    obtain ⟨y,hy⟩:=ih (fun g hg=>h g (List.mem_cons_of_mem _ hg)) (by omega)
    obtain ⟨x,hx⟩:=h f (List.mem_cons_self ..)
    rw [ho,R.size] at hx
    obtain ⟨z,hz⟩:=R.rd hx
    refine ⟨(z,y),_,_,(List.take_append_drop T.size _).symm,hz,?_⟩
    rw [List.drop_drop]
    exact hy
theorem uS {t:TypeId} {fs:Array Field} {β:Type} {U:Ty β} (ht:P.underlying t=some (.struct fs)) (hc:P.cellsOf t=U.size) (hp:0 < U.size) (F:Flds P 0 fs.toList β U):Rdr P t U :=
  ⟨hc,hp,@fun H enc w base sp held fuel cs x h=>by
    obtain ⟨xs,m,_,_,hl,hx,hh⟩:=DataW.trod_struct ht h
    have:=flds_of (enc:=enc) (base:=base) (sp:=sp) (held:=held) (m:=m) (cs:=cs) (w:=w) F (fun f hf=>by
      obtain ⟨i,hi,rfl⟩:=List.mem_iff_getElem.1 hf
      have h1:=hh i fs.toList[i] (by simp)
      have hi':i < fs.size:=by simpa using hi
      rw [List.getElem?_eq_getElem (by omega)] at h1
      exact ⟨_,h1⟩) (by rw [hl,hc]; omega)
    simpa using this⟩
variable {H:Type} {enc:TypeId×Value→H} {W:World} {base b0:Nat} {sp:Nat→Bool} {held:Bool} {r:Reach} {t e:TypeId} {v:Value} {d:DataW H} {ps:List MemPlace}
theorem top_rd {α:Type} {T:Ty α} (R:Rdr P t T) (h:DataW.Trod enc P W base sp held t v d ps):∃ y,T.rd (fun _=>True) W v.cells.toList y:=by
  obtain ⟨n,hn⟩:=h
  exact R.rd hn
theorem top_agg {α:Type} {T:Ty α} {td:TypeDesc} (ht:P.underlying t=some td) (hd:jy td=true) (R:Rdr P t T) (hval:Value.okWide P W r b0 t v) (h:DataW.Trod enc P W base sp held t v d ps):∃ cs y,v=.agg cs∧T.rd (fun _=>True) W cs.toList y:=by
  obtain ⟨y,hy⟩:=top_rd R h
  have hv:∃ cs,v=.agg cs:=by
    unfold Value.okWide at hval
    rw [ht] at hval
    cases td <;> simp_all [jy]
    all_goals (obtain ⟨cs,h,_⟩:=hval; exact ⟨cs,h⟩)
  obtain ⟨cs,rfl⟩:=hv
  exact ⟨cs,y,rfl,hy⟩
end
end Go.PK

namespace Go.PK
open Go Go.RowKit
section
variable {P:Program} {n:Nat} {l:List (Nat×Value)} {own:List (Nat×Obj)} {ro:List au} {ty:TypeId} {x:Operand}
theorem eE {vs:Array Value} {i:Nat} {v:Value} (hx:ev l x=some (.tuple vs)) (hv:vs[i]?=some v):cv P n l own ro (.extract x i) ty v:=by
  intro A w o ha _ ho _
  simp [execOp,ho,ha.eval hx,Instr.extract,hv]
end
end Go.PK

namespace Go.PK
open Go Go.RowKit
def qf (y:Int):Bool:=decide (y%4=0) && (decide (y%100≠0) || decide (y%400=0))
def sY (y m:Int):Int:=if m=4∨m=6∨m=9∨m=11 then 30 else if m=2 then (if qf y=true then 29 else 28) else 31
def NY (y:Int):Int:=-719162+365*(y - 1)+(y - 1) / 4 - (y - 1) / 100+(y - 1) / 400
def ly (y:Int):Nat→Int
  | 0=>0
  | k+1=>ly y k+sY y ((k+1:Nat):Int)
theorem leap_iff (y:Int):qf y=true↔y%4=0∧(y%100≠0∨y%400=0):=by simp [qf]
theorem mlen_rng (y m:Int):28≤sY y m∧sY y m≤31:=by unfold sY; split <;> (try split) <;> (try split) <;> omega
theorem wk {y:Int}:NY (y+1)=NY y+(if qf y=true then 366 else 365):=by
  have h:=leap_iff y
  unfold NY
  split
  · rename_i hl; have:=h.1 hl; omega
  · rename_i hl
    have:¬(y%4=0∧(y%100≠0∨y%400=0)):=fun x=>hl (h.2 x)
    omega
theorem moff12 (y:Int):ly y 12=if qf y=true then 366 else 365:=by
  simp only [ly,sY]
  cases qf y <;> simp
theorem NY_next (y:Int):NY (y+1)=NY y+ly y 12:=by rw [wk,moff12]
theorem NY_lt (y:Int):NY y+365≤NY (y+1):=by rw [wk]; split <;> omega
theorem wl (y:Int):∀ n:Nat,NY y≤NY (y+n)
  | 0=>by simp
  | n+1=>by
    have h1:=wl y n
    have h2:=NY_lt (y+n)
    have e:y+((n+1:Nat):Int)=y+n+1:=by omega
    rw [e]; omega
theorem NY_le {y z:Int} (h:y≤z):NY y≤NY z:=by
  have:=wl y (z - y).toNat
  rwa [show y+(((z - y).toNat:Nat):Int)=z by omega] at this
theorem qg (y:Int) (k:Nat):∀ n:Nat,ly y k≤ly y (k+n)
  | 0=>Int.le_refl _
  | n+1=>by
    have h1:=qg y k n
    have h2:=mlen_rng y ((k+n+1:Nat):Int)
    show ly y k≤ly y (k+n)+sY y ((k+n+1:Nat):Int)
    omega
theorem wm {y:Int} {k m:Nat} (h:k≤m):ly y k≤ly y m:=by
  have:=qg y k (m - k)
  rwa [show k+(m - k)=m by omega] at this
theorem sZ (y:Int) (k:Nat):0≤ly y k:=wm (Nat.zero_le k)
def dayN (y:Int) (m:Nat) (d:Int):Int:=NY y+d - 1+ly y (m - 1)
structure Civ (day y:Int) (m:Nat) (d:Int):Prop where
  y1:1≤y
  m1:1≤m
  m2:m≤12
  d1:1≤d
  d2:d≤sY y m
  is:dayN y m d=day
theorem x5 (y:Int) {m:Nat} (h:1≤m):ly y m=ly y (m - 1)+sY y m:=by
  obtain ⟨k,rfl⟩:∃ k,m=k+1:=⟨m - 1,by omega⟩
  rfl
theorem Civ.year {day y d:Int} {m:Nat} (h:Civ day y m d):NY y≤day∧day < NY (y+1):=by
  have h1:=sZ y (m - 1)
  have h2:=x5 y h.m1
  have h3:=wm (y:=y) h.m2
  have h4:=NY_next y
  have:=h.is; have:=h.d1; have:=h.d2
  unfold dayN at this
  have e:=h.is
  unfold dayN at e
  omega
def lz (day:Int):Prop:=-719162≤day∧day≤2932896
instance (day:Int):Decidable (lz day):=by unfold lz; infer_instance
theorem NY_first:NY 1=-719162:=by decide
theorem wn:NY 10000=2932897:=by decide
theorem Civ.range {day y d:Int} {m:Nat} (h:Civ day y m d):lz day↔y≤9999:=by
  have a:=h.year
  constructor
  · intro hd
    rcases Int.lt_or_le y 10000 with hl | hl
    · omega
    · have:=NY_le hl; rw [wn] at this; unfold lz at hd; omega
  · intro hy
    have h1:=NY_le h.y1
    have h2:=NY_le (show y+1≤10000 by omega)
    rw [NY_first] at h1
    rw [wn] at h2
    unfold lz; omega
end Go.PK

namespace Go.PK
open Go Go.RowKit
end Go.PK

namespace Go.PK
open Go Go.RowKit
theorem fQ {D:Nat→Prop} {w:World} {A:Option Addr} {l c:Nat} {xs:List Int} (h:aa iV D w (.slice A l c) xs) {k:Nat} (hk:k < xs.length) :
    ∃ b off,A=some ⟨b,off,none⟩∧D b∧w.cell? ⟨b,off+k,none⟩=some (.int .i64 xs[k])∧aj xs[k]:=by
  obtain ⟨A',c',e,h1,h2,h3⟩:=h
  injection e with e1 e2 e3
  obtain ⟨b,off,hA,hD,hb,hc⟩:=h3 (by omega)
  obtain ⟨cs,hcs,rfl,hok⟩:=hc k hk
  have:=hcs 0 (by simp)
  exact ⟨b,off,e1.trans hA,hD,by simpa [iV] using this,hok⟩
end Go.PK

namespace Go.PK
open Go Go.RowKit
section
variable {P:Program} {n:Nat} {l:List (Nat×Value)} {own:List (Nat×Obj)} {ro:List au} {ty:TypeId} {x y:Operand} {t t':TypeId} {k k':IntKind} {a b:Int}
theorem kB {tys:Array TypeId} (hx:ev l x=some (.int k a)) (hy:ev l y=some (.int k' b)):cv P n l own ro (.call ⟨.builtin .max,#[x,y],tys⟩) ty (.int k (max a b)):=by
  intro A w o ha _ ho _
  have e:(if a < b then b else a)=max a b:=by omega
  simp [execOp,ho,resolve,invoke,builtin,ha.eval hx,ha.eval hy,Builtin.max_,Builtin.max2,e]
theorem ta {tys:Array TypeId} (hx:ev l x=some (.int k a)) (hy:ev l y=some (.int k' b)):cv P n l own ro (.call ⟨.builtin .min,#[x,y],tys⟩) ty (.int k (min a b)):=by
  intro A w o ha _ ho _
  have e:(if b < a then b else a)=min a b:=by omega
  simp [execOp,ho,resolve,invoke,builtin,ha.eval hx,ha.eval hy,Builtin.min_,Builtin.min2,e]
theorem v_shr (hx:ev l x=some (.int k a)) (hy:ev l y=some (.int k' b)) (h0:0≤b) {c:Int} (hc:a / 2 ^ min b.toNat k.bits=c):cv P n l own ro (.binOp .shr t x y t') ty (.int k c):=by
  intro A w o ha _ ho _
  have hp:(0:Int)≤2 ^ min b.toNat k.bits:=Int.pow_nonneg (by decide)
  have h1:¬ b < 0:=by omega
  simp [execOp,ho,ha.eval hx,ha.eval hy,eqGuard,binOp,Op.shift,h1,Int.fdiv_eq_ediv_of_nonneg _ hp,hc]
theorem v_shl (hx:ev l x=some (.int k a)) (hy:ev l y=some (.int k' b)) (h0:0≤b) {c:Int} (hc:k.wrap (a*2 ^ min b.toNat k.bits)=c):cv P n l own ro (.binOp .shl t x y t') ty (.int k c):=by
  intro A w o ha _ ho _
  have h1:¬ b < 0:=by omega
  simp [execOp,ho,ha.eval hx,ha.eval hy,eqGuard,binOp,Op.shift,h1,hc]
def andK (k:IntKind) (a b:Int):Int:=k.wrap (BitVec.ofInt k.bits a &&& BitVec.ofInt k.bits b).toNat
def orK (k:IntKind) (a b:Int):Int:=k.wrap (BitVec.ofInt k.bits a ||| BitVec.ofInt k.bits b).toNat
def x6 (k:IntKind) (a b:Int):Int:=k.wrap (BitVec.ofInt k.bits a ^^^ BitVec.ofInt k.bits b).toNat
def lA (k:IntKind) (a b:Int):Int:=k.wrap (BitVec.ofInt k.bits a &&& ~~~BitVec.ofInt k.bits b).toNat
theorem v_andK (hx:ev l x=some (.int k a)) (hy:ev l y=some (.int k b)):cv P n l own ro (.binOp .and t x y t') ty (.int k (andK k a b)):=by
  intro A w o ha _ ho _
  simp [execOp,ho,ha.eval hx,ha.eval hy,eqGuard,binOp,Op.intBits,andK]
theorem v_orK (hx:ev l x=some (.int k a)) (hy:ev l y=some (.int k b)):cv P n l own ro (.binOp .or t x y t') ty (.int k (orK k a b)):=by
  intro A w o ha _ ho _
  simp [execOp,ho,ha.eval hx,ha.eval hy,eqGuard,binOp,Op.intBits,orK]
theorem v_xorK (hx:ev l x=some (.int k a)) (hy:ev l y=some (.int k b)):cv P n l own ro (.binOp .xor t x y t') ty (.int k (x6 k a b)):=by
  intro A w o ha _ ho _
  simp [execOp,ho,ha.eval hx,ha.eval hy,eqGuard,binOp,Op.intBits,x6]
theorem x7 (hx:ev l x=some (.int k a)) (hy:ev l y=some (.int k b)):cv P n l own ro (.binOp .andNot t x y t') ty (.int k (lA k a b)):=by
  intro A w o ha _ ho _
  simp [execOp,ho,ha.eval hx,ha.eval hy,eqGuard,binOp,Op.intBits,lA]
end
end Go.PK

namespace Go.PK
open Go Go.RowKit
theorem rowI_T {D:Nat→Prop} {ws:World} {r:ak} {ds:List Int} {n:Nat} (hr:ag 1 r n (ds.map (Value.int .i64))) (hn:n=ds.length) (hin:∀ d∈ds,aj d):cU iV D ws r ds:=by
  subst hn
  refine ⟨ds.map fun d=>[.int .i64 d],by simp,?_,fun j h1 h2=>?_⟩
  · have e:(ds.map fun d=>[Value.int .i64 d]).flatten=ds.map (Value.int .i64):=by
      clear hr hin
      induction ds with
      | nil=>rfl
      | cons x xs ih=>simp [ih]
    rw [e]; exact hr
  · rw [List.getElem_map]
    exact ⟨rfl,hin _ (List.getElem_mem h2)⟩
theorem dr {D:Nat→Prop} {w:World} {own:List (Nat×Obj)} {ro:List au} {e:TypeId} {r:ak} {ds:List Int} {n:Nat} (hr:ag 1 r n (ds.map (Value.int .i64))) (hn:n=ds.length) (hi:∀ d∈ds,aj d)
    (hm:Mem w own ro) (hin:∀ p∈aA e r,p∈own) (hD:∀ p∈aA e r,D p.1):aa iV D w (av r n) ds :=
  (rowI_T (D:=fun _=>False) (ws:=w) hr hn hi).rd hm hin (fun _ h=>h.elim) hD hn
end Go.PK

namespace Go.PK
open Go Go.RowKit
def d3 (bs:List UInt8):List Value:=bs.map fun c=>.int .u8 c.toNat
theorem rp (bs:List UInt8):(d3 bs).length=bs.length:=by simp [d3]
theorem rq {bs:List UInt8} {j:Nat} (h:j < bs.length):(d3 bs)[j]?=some (.int .u8 bs[j].toNat):=by simp [d3,h]
def rr (z:Int):UInt8:=UInt8.ofNat (z%256).toNat
theorem x8 (z:Int):IntKind.u8.wrap z=((rr z).toNat:Nat):=by
  unfold rr
  rw [IntKind.wrap_u8,UInt8.toNat_ofNat_of_lt' (by show _ < 256; omega)]
  omega
section
variable {P:Program} {n:Nat} {l:List (Nat×Value)} {own:List (Nat×Obj)} {ro:List au} {lops:List Oper} {Q:Exit→Act→World→Prop} {K:Act→World→Prop}
  {rest:List (Option Bool×Nat)} {k:Option Bool} {i d:Nat} {ty t t':TypeId} {pos:String} {af:Array Edge} {x y:Operand} {b off:Nat}
theorem x_bytes {e:TypeId} {s:ByteArray} {u:TypeDesc} (ho:lops[i]?=some ⟨some d,.convert t t' x,ty,pos,af,none⟩) (hk:(k == some true)=false) (hd:decide (d < n)=true)
    (hs:P.underlying t=some u) (hd2:P.underlying t'=some (.slice e)) (he:P.underlying e=some (.int .u8)) (hx:ev l x=some (.string s))
    (h:∀ b cp (cs:List Value) fz,s.size≤cp→cs.take s.size=d3 s.data.toList→WX P lops.toArray Q K rest n ((d,.slice (some ⟨b,0,none⟩) s.size cp)::l) ((b,.cells cs.toArray e fz)::own) ro):WX P lops.toArray Q K ((k,i)::rest) n l own ro:=by
  intro a w ha hw
  have hd':d < n:=of_decide_eq_true hd
  have hw1:=bS (lops:=lops) (n:=n) (l:=l) (o:=⟨some d,.convert t t' x,ty,pos,af,none⟩) rfl a ha
  simp only [gW,List.getElem?_toArray,ho]
  have hlat:∀ w',Later w' (Lib.bytesWorld w' e s):=fun w'=>⟨rfl,rfl,rfl,by rw [Lib.bytesWorld_size]; omega,fun j hj=>Lib.bytesWorld_at_old w' e s j hj⟩
  have hrun:∀ w',(execOp a.eval ⟨some d,.convert t t' x,ty,pos,af,none⟩).run P w'=.ok (.value (.slice (some ⟨w'.heap.size,0,none⟩) s.size (grownCap w' s.size 0 e))) (Lib.bytesWorld w' e s):=fun w'=>by
    simp [execOp,ha.eval hx,Lib.run_convert_string_bytes w' t t' e s hs hd2 he]
  have key:∀ w',Later w w'→gW P lops.toArray Q K rest (a.put (some d) (.slice (some ⟨w'.heap.size,0,none⟩) s.size (grownCap w' s.size 0 e))) (Lib.bytesWorld w' e s):=fun w' hl=>by
    have hM:=hw.later hl
    refine h _ _ (Lib.bytesCells w' e s).toList ((Lib.bytesCells w' e s).size,(Lib.bytesCells w' e s).size+1) (grownCap_ge _ _ _ _) ?_ _ _ (ha.put _ hd') ?_
    · unfold Lib.bytesCells d3
      have:(s.data.map fun b=>Value.int .u8 b.toNat).toList.length=s.size:=by simp
      rw [Array.toList_append,← this,List.take_left]
      simp
    · have hl2:=hlat w'
      have h2:=hM.later hl2
      refine ⟨fun p hp=>?_,?_,h2.ro_st,h2.ro_at,fun p hp s' hs' hdd=>?_⟩
      · rcases List.mem_cons.1 hp with rfl | hp
        · simpa using Lib.bytesWorld_at_new w' e s
        · exact h2.own_at p hp
      · simp only [List.map_cons,List.nodup_cons]
        refine ⟨fun hm=>?_,h2.own_nd⟩
        obtain ⟨p,hp,he'⟩:=List.mem_map.1 hm
        have:=hM.lt hp
        omega
      · rcases List.mem_cons.1 hp with rfl | hp
        · exact (hM.ro_st s' hs').2.2.2
        · exact h2.apart p hp s' hs' hdd
  cases k with
  | none =>
    intro w' hl
    rw [if_pos hw1]
    unfold Oper.wp
    rw [hrun]
    exact key w' hl
  | some b0 =>
    have:b0=false:=by cases b0 <;> simp_all
    subst this
    dsimp only
    rw [if_pos hw1]
    intro w' hl
    unfold Oper.wp
    rw [hrun]
    exact ⟨hlat w',key w' hl⟩
end
end Go.PK

namespace Go.PK
open Go Go.RowKit
structure BS where
  pp:Value
  v:Value
  o:List (Nat×Obj)
def bld (T:TypeId) (b:Nat) (x:BS):List (Nat×Obj):=(b,.cells #[x.pp,x.v] T (0,0))::x.o
structure BOK (e:TypeId) (B b:Nat) (l:List UInt8) (x:BS):Prop where
  le:B≤b
  pp:x.pp=.pointer none∨x.pp=.pointer (some ⟨b,0,none⟩)
  row:(x.v=.slice none 0 0∧l=[]∧x.o=[])∨∃ g cap cur fz,x.v=.slice (some ⟨g,0,none⟩) l.length cap∧x.o=[(g,.cells cur e fz)]∧B≤g∧fz.2≤l.length∧l.length≤cap∧cap≤maxLen∧cur.size=cap∧cur.toList.take l.length=d3 l
theorem BOK.new {e:TypeId} {B b:Nat} (h:B≤b):BOK e B b [] ⟨.pointer none,.slice none 0 0,[]⟩:=⟨h,.inl rfl,.inl ⟨rfl,rfl,rfl⟩⟩
section
variable {T e:TypeId} {B b:Nat} {l:List UInt8} {x:BS} {w w':World} {l2:List (Nat×Obj)} {ro:List au}
theorem BOK.is (h:BOK e B b l x) (hm:Mem w (bld T b x++l2) ro):Lib.IsBuilderF T e B b (d3 l) w:=by
  have hb:w.heap[b]?=some (.cells #[x.pp,x.v] T (0,0)):=hm.own_at (b,_) (by simp [bld])
  have key:w.ownsRowF B e 1 x.v (d3 l).length (d3 l)∧x.v.ownBlock≠some b:=by
    rw [rp]
    rcases h.row with ⟨h1,rfl,h3⟩ | ⟨g,cap,cur,fz,h1,h3,h4,h5,h6,h7,h8,h9⟩
    · rw [h1]; exact ⟨World.ownsRowF_nil ..,by simp [Value.ownBlock]⟩
    · have hg:w.heap[g]?=some (.cells cur e fz):=hm.own_at (g,_) (by simp [bld,h3])
      refine ⟨⟨by rw [rp,Nat.mul_one],.inr ⟨g,cap,cur,fz,h1,h4,hg,by omega,h6,h7,by omega,by rw [Nat.mul_one]; exact h9⟩⟩,?_⟩
      rw [h1]
      simp only [Value.ownBlock]
      intro he
      have hnd:=hm.own_nd
      simp only [bld,h3,List.cons_append,List.nil_append,List.map_cons,List.nodup_cons] at hnd
      exact hnd.1 (by simp at he; simp [he])
  rcases h.pp with hp | hp
  · exact .inl ⟨h.le,x.v,by rw [← hp]; exact hb,key⟩
  · exact .inr ⟨h.le,x.v,by rw [← hp]; exact hb,key⟩
end
theorem je (a b:List UInt8):d3 (a++b)=d3 a++d3 b:=by simp [d3]
end Go.PK

namespace Go.PK
open Go Go.RowKit
structure Sg where
  c:UInt8
  e:UInt8
  r:UInt8
  n:UInt8
deriving DecidableEq
def Sg.cells (g:Sg):List Value:=[.int .u8 g.c.toNat,.int .u8 g.e.toNat,.int .u8 g.r.toNat,.int .u8 g.n.toNat]
def bC (g:Sg) (s:ByteArray) (a:Nat):List Value:=[.int .u8 g.c.toNat,.int .u8 g.e.toNat,.int .u8 g.r.toNat,.int .u8 g.n.toNat,.string s,.int .i64 (a:Nat)]
def d5 (c:UInt8):Bool:=decide (c=10) || decide (c=13) || decide (c=32)
theorem bP {c k:UInt8}:(((c.toNat:Nat):Int)=((k.toNat:Nat):Int))↔c=k:=by
  constructor
  · intro h; exact UInt8.toNat_inj.1 (by omega)
  · rintro rfl; rfl
theorem j4 (c:UInt8):d5 c=true↔(((c.toNat:Nat):Int)=10∨((c.toNat:Nat):Int)=13)∨((c.toNat:Nat):Int)=32:=by
  have h1:(((c.toNat:Nat):Int)=10)↔c=10:=bP (k:=10)
  have h2:(((c.toNat:Nat):Int)=13)↔c=13:=bP (k:=13)
  have h3:(((c.toNat:Nat):Int)=32)↔c=32:=bP (k:=32)
  rw [h1,h2,h3]; simp [d5]
def qh (s:ByteArray):Nat→Nat→Nat
  | 0,a=>a
  | f+1,a=>if a < s.size∧d5 (ad s a)=true then qh s f (a+1) else a
def bG (s:ByteArray) (a:Nat):Nat:=qh s (s.size - a) a
theorem ru {s:ByteArray} {a:Nat} (h:a < s.size) (hb:d5 (ad s a)=true):bG s a=bG s (a+1):=by
  unfold bG
  rw [show s.size - a=(s.size - (a+1))+1 by omega]
  show (if a < s.size∧d5 (ad s a)=true then _ else _)=_
  rw [if_pos ⟨h,hb⟩]
theorem eF {s:ByteArray} {a:Nat} (h:¬(a < s.size∧d5 (ad s a)=true)):bG s a=a:=by
  unfold bG
  cases hf:s.size - a with
  | zero=>rfl
  | succ f=>show (if a < s.size∧d5 (ad s a)=true then _ else _)=_; rw [if_neg h]
theorem qi (s:ByteArray):∀ f a,a≤s.size→a≤qh s f a∧qh s f a≤s.size
  | 0,a,h=>⟨Nat.le_refl _,h⟩
  | f+1,a,h=>by
    show a≤(if a < s.size∧d5 (ad s a)=true then qh s f (a+1) else a)∧(if a < s.size∧d5 (ad s a)=true then qh s f (a+1) else a)≤s.size
    split
    · rename_i hc
      have:=qi s f (a+1) (by omega)
      omega
    · exact ⟨Nat.le_refl _,h⟩
theorem iD {s:ByteArray} {a:Nat} (h:a≤s.size):a≤bG s a∧bG s a≤s.size:=qi s _ a h
theorem mg {s:ByteArray}:∀ (d a:Nat),s.size - a=d→bG s (bG s a)=bG s a
  | 0,a,h=>by rw [eF (a:=a) (by omega)]; exact eF (by omega)
  | d+1,a,h=>by
    by_cases hb:a < s.size∧d5 (ad s a)=true
    · rw [ru hb.1 hb.2]; exact mg d (a+1) (by omega)
    · rw [eF hb,eF hb]
def ez (c:UInt8):Bool:=decide (65≤c.toNat∧c.toNat≤90)
def jL (t:ByteArray):Prop:=∀ j,j < t.size→ez (ad t j)=true
instance (t:ByteArray):Decidable (jL t):=by unfold jL; infer_instance
abbrev TagR:=(ByteArray×Int×Int)×Nat
def aP (s:ByteArray) (a:Nat):ByteArray:=s.extract a (min (a+3) s.size)
theorem kK {s:ByteArray} {a:Nat} (h:a≤s.size):(aP s a).size=min 3 (s.size - a):=by
  unfold aP; rw [ByteArray.size_extract]; omega
theorem nS {s:ByteArray} {a j:Nat} (h:a≤s.size) (hj:j < (aP s a).size):ad (aP s a) j=ad s (a+j):=by
  rw [kK h] at hj
  exact nL (by omega) (by omega)
def cR (s:ByteArray) (g:Sg) (a:Nat):TagR :=
  if ¬ jL (aP s a) then ((⟨#[]⟩,((a:Nat):Int),40),a)
  else if (aP s a).size < 3∨a+(aP s a).size=s.size then ((⟨#[]⟩,((s.size:Nat):Int),10),a+(aP s a).size)
  else if ad s (a+(aP s a).size)≠g.e∧ad s (a+(aP s a).size)≠g.n then ((⟨#[]⟩,((a+(aP s a).size:Nat):Int),40),a+(aP s a).size)
  else ((aP s a,0,0),a+(aP s a).size)
abbrev rx:=Option (List UInt8×UInt8×Nat)
def d6 (s:ByteArray) (g:Sg):Nat→Nat→List UInt8→rx
  | 0,_,_=>none
  | f+1,a,b =>
    if a < s.size then
      if ad s a=g.c∨ad s a=g.e∨ad s a=g.n then some (b,ad s a,a+1)
      else if ad s a=g.r then (if a+1=s.size then none else d6 s g f (a+2) (b++[ad s (a+1)]))
      else d6 s g f (a+1) (b++[ad s a])
    else none
theorem jM (s:ByteArray) (g:Sg):∀ (f a:Nat) (b:List UInt8),s.size - a < f→d6 s g f a b=d6 s g (f+1) a b
  | 0,_,_,h=>by omega
  | f+1,a,b,h=>by
    by_cases ha:a < s.size
    · rw [d6,d6,if_pos ha,if_pos ha]
      split
      · rfl
      · split
        · split
          · rfl
          · exact jM s g f _ _ (by omega)
        · exact jM s g f _ _ (by omega)
    · rw [d6,d6,if_neg ha,if_neg ha]
def cD (s:ByteArray) (g:Sg) (a:Nat) (b:List UInt8):rx:=d6 s g (s.size+1) a b
theorem eL (s:ByteArray) (g:Sg) (a:Nat) (b:List UInt8):cD s g a b =
    if a < s.size then
      if ad s a=g.c∨ad s a=g.e∨ad s a=g.n then some (b,ad s a,a+1)
      else if ad s a=g.r then (if a+1=s.size then none else cD s g (a+2) (b++[ad s (a+1)]))
      else cD s g (a+1) (b++[ad s a])
    else none:=by
  by_cases ha:a < s.size
  · unfold cD
    rw [d6,if_pos ha,if_pos ha]
    have k:∀ x b',a < x→d6 s g s.size x b'=d6 s g (s.size+1) x b':=fun x b' hx=>jM s g _ _ _ (by omega)
    rw [k (a+2) _ (by omega),k (a+1) _ (by omega)]
  · unfold cD; rw [d6,if_neg ha,if_neg ha]
theorem kL (s:ByteArray) (g:Sg):∀ (f a:Nat) (b:List UInt8) {t:List UInt8} {c:UInt8} {a':Nat},d6 s g f a b=some (t,c,a')→a < a'∧a'≤s.size∧t.length≤b.length+(a' - a)∧(c=g.c∨c=g.e∨c=g.n)
  | 0,_,_,_,_,_,h=>by simp [d6] at h
  | f+1,a,b,t,c,a',h=>by
    rw [d6] at h
    split at h
    · rename_i ha
      split at h
      · rename_i hc
        simp only [Option.some.injEq,Prod.mk.injEq] at h
        obtain ⟨rfl,rfl,rfl⟩:=h
        exact ⟨by omega,by omega,by omega,hc⟩
      · split at h
        · split at h
          · cases h
          · obtain ⟨h1,h2,h3,h4⟩:=kL s g f _ _ h
            simp only [List.length_append,List.length_singleton] at h3
            exact ⟨by omega,h2,by omega,h4⟩
        · obtain ⟨h1,h2,h3,h4⟩:=kL s g f _ _ h
          simp only [List.length_append,List.length_singleton] at h3
          exact ⟨by omega,h2,by omega,h4⟩
    · cases h
theorem iE {s:ByteArray} {g:Sg} {a a':Nat} {b t:List UInt8} {c:UInt8} (h:cD s g a b=some (t,c,a')):a < a'∧a'≤s.size∧t.length≤b.length+(a' - a)∧(c=g.c∨c=g.e∨c=g.n):=kL s g _ _ _ h
def gb (out:List (List ByteArray)) (t:ByteArray):List (List ByteArray):=match out.getLast? with | some y=>out.dropLast++[y++[t]] | none=>out
theorem gd (ys:List (List ByteArray)) (y:List ByteArray) (t:ByteArray):gb (ys++[y]) t=ys++[y++[t]]:=by simp [gb]
abbrev ElR:=Option (List (List ByteArray)×Nat)
def jN (g:Sg) (c:UInt8) (out:List (List ByteArray)):List (List ByteArray):=if c=g.e then out++[[]] else out
def x9 (s:ByteArray) (g:Sg):Nat→UInt8→Nat→List (List ByteArray)→ElR
  | 0,_,_,_=>none
  | f+1,c,a,out =>
    if c=g.n then some (out,a)
    else match cD s g a [] with
      | none=>none
      | some (t,c',a')=>x9 s g f c' a' (gb (jN g c out) ⟨t.toArray⟩)
theorem tc (s:ByteArray) (g:Sg):∀ (f a:Nat) (c:UInt8) (out:List (List ByteArray)),a≤s.size→s.size - a < f→x9 s g f c a out=x9 s g (f+1) c a out
  | 0,_,_,_,_,h=>by omega
  | f+1,a,c,out,ha,h=>by
    rw [x9,x9]
    split
    · rfl
    · cases hp:cD s g a [] with
      | none=>rfl
      | some x =>
        obtain ⟨t,c',a'⟩:=x
        obtain ⟨h1,h2,_⟩:=iE hp
        exact tc s g f a' c' _ h2 (by omega)
def iW (s:ByteArray) (g:Sg) (c:UInt8) (a:Nat) (out:List (List ByteArray)):ElR:=x9 s g (s.size+1) c a out
theorem qj (s:ByteArray) (g:Sg) (c:UInt8) (a:Nat) (out:List (List ByteArray)):iW s g c a out =
    if c=g.n then some (out,a)
    else match cD s g a [] with
      | none=>none
      | some (t,c',a')=>iW s g c' a' (gb (jN g c out) ⟨t.toArray⟩):=by
  unfold iW
  rw [x9]
  split
  · rfl
  · cases hp:cD s g a [] with
    | none=>rfl
    | some x =>
      obtain ⟨t,c',a'⟩:=x
      obtain ⟨h1,h2,_⟩:=iE hp
      exact tc s g s.size a' c' _ h2 (by omega)
theorem wo (s:ByteArray) (g:Sg):∀ (f:Nat) (c:UInt8) (a:Nat) (out:List (List ByteArray)) {l:List (List ByteArray)} {a':Nat},a≤s.size→x9 s g f c a out=some (l,a')→a≤a'∧a'≤s.size
  | 0,_,_,_,_,_,_,h=>by simp [x9] at h
  | f+1,c,a,out,l,a',ha,h=>by
    rw [x9] at h
    split at h
    · simp only [Option.some.injEq,Prod.mk.injEq] at h
      obtain ⟨_,rfl⟩:=h
      exact ⟨Nat.le_refl _,ha⟩
    · cases hp:cD s g a [] with
      | none=>rw [hp] at h; cases h
      | some x =>
        obtain ⟨t,c',b⟩:=x
        rw [hp] at h
        obtain ⟨h1,h2,_⟩:=iE hp
        have:=wo s g f c' b _ h2 h
        omega
theorem ry {s:ByteArray} {g:Sg} {c:UInt8} {a a':Nat} {out l:List (List ByteArray)} (ha:a≤s.size) (h:iW s g c a out=some (l,a')):a≤a'∧a'≤s.size:=wo s g _ _ _ _ ha h
structure Seg where
  tag:ByteArray
  els:List (List ByteArray)
deriving DecidableEq
abbrev ParR:=List Seg×Int×Int
def rz (s:ByteArray) (g:Sg):Nat→Nat→List Seg→ParR
  | 0,_,out=>(out,0,0)
  | f+1,a0,out =>
    if bG s a0 < s.size then
      if out.length=10000 then ([],((bG s a0:Nat):Int),2)
      else if (cR s g (bG s a0)).1.2.2≠0 then ([],(cR s g (bG s a0)).1.2.1,(cR s g (bG s a0)).1.2.2)
      else match iW s g (ad s (cR s g (bG s a0)).2) ((cR s g (bG s a0)).2+1) [] with
        | none=>([],((s.size:Nat):Int),10)
        | some (l,a')=>rz s g f a' (out++[⟨(cR s g (bG s a0)).1.1,l⟩])
    else (out,0,0)
theorem rA {s:ByteArray} {g:Sg} {a:Nat} (h:(cR s g a).1.2.2=0):cR s g a=((aP s a,0,0),a+3)∧(aP s a).size=3∧a+3≠s.size∧(ad s (a+3)=g.e∨ad s (a+3)=g.n):=by
  have hs:(aP s a).size≤3:=by unfold aP; rw [ByteArray.size_extract]; omega
  unfold cR at h ⊢
  split at h
  · cases h
  · split at h
    · cases h
    · split at h
      · cases h
      · rename_i h1 h2 h3
        rw [if_neg h1,if_neg h2,if_neg h3]
        have h4:(aP s a).size=3:=by omega
        rw [h4] at h2 h3 ⊢
        refine ⟨rfl,rfl,fun e=>h2 (.inr e),?_⟩
        by_cases he:ad s (a+3)=g.e
        · exact .inl he
        · exact .inr (Decidable.byContradiction fun hn=>h3 ⟨he,hn⟩)
theorem nT {s:ByteArray} {a:Nat} (h:(aP s a).size=3) (h2:a+3≠s.size):a+3 < s.size:=by
  unfold aP at h; rw [ByteArray.size_extract] at h; omega
theorem qk (s:ByteArray) (g:Sg):∀ (f a:Nat) (out:List Seg),a≤s.size→s.size - a < f→rz s g f a out=rz s g (f+1) a out
  | 0,_,_,_,h=>by omega
  | f+1,a,out,ha,h=>by
    rw [rz,rz]
    split
    · rename_i hlt
      split
      · rfl
      · split
        · rfl
        · rename_i he
          obtain ⟨e1,e2,e3,_⟩:=rA (s:=s) (g:=g) (a:=bG s a) (by simpa using he)
          have e4:=nT e2 e3
          have hk:=iD ha
          rw [e1]
          dsimp only
          cases hp:iW s g (ad s (bG s a+3)) (bG s a+3+1) [] with
          | none=>rfl
          | some x =>
            obtain ⟨l,a'⟩:=x
            have h2:=ry (by omega) hp
            exact qk s g f a' _ h2.2 (by omega)
    · rfl
def lB (s:ByteArray) (g:Sg) (a:Nat) (out:List Seg):ParR:=rz s g (s.size+1) a out
theorem jO (s:ByteArray) (g:Sg) (a:Nat) (out:List Seg) (ha:a≤s.size):lB s g a out =
    if bG s a < s.size then
      if out.length=10000 then ([],((bG s a:Nat):Int),2)
      else if (cR s g (bG s a)).1.2.2≠0 then ([],(cR s g (bG s a)).1.2.1,(cR s g (bG s a)).1.2.2)
      else match iW s g (ad s (cR s g (bG s a)).2) ((cR s g (bG s a)).2+1) [] with
        | none=>([],((s.size:Nat):Int),10)
        | some (l,a')=>lB s g a' (out++[⟨(cR s g (bG s a)).1.1,l⟩])
    else (out,0,0):=by
  unfold lB
  rw [rz]
  split
  · split
    · rfl
    · split
      · rfl
      · rename_i he
        obtain ⟨e1,e2,e3,_⟩:=rA (s:=s) (g:=g) (a:=bG s a) (by simpa using he)
        have e4:=nT e2 e3
        have hk:=iD ha
        rw [e1]
        dsimp only
        cases hp:iW s g (ad s (bG s a+3)) (bG s a+3+1) [] with
        | none=>rfl
        | some x =>
          obtain ⟨l,a'⟩:=x
          have h2:=ry (by omega) hp
          exact qk s g s.size a' _ h2.2 (by omega)
  · rfl
def iF (c:UInt8):Prop:=c.toNat≤32∨(48≤c.toNat∧c.toNat≤57)∨(65≤c.toNat∧c.toNat≤90)∨(97≤c.toNat∧c.toNat≤122)
instance (c:UInt8):Decidable (iF c):=by unfold iF; infer_instance
def eM (g:Sg):Prop:=(¬iF g.c∧¬iF g.e∧¬iF g.r∧¬iF g.n)∧g.e≠g.c∧(g.r≠g.c∧g.r≠g.e)∧g.n≠g.c∧g.n≠g.e∧g.n≠g.r
instance (g:Sg):Decidable (eM g):=by unfold eM; infer_instance
def bL:Sg:=⟨58,43,63,39⟩
def jf (s:ByteArray):Sg:=⟨ad s 3,ad s 4,ad s 6,ad s 8⟩
def pJ (s:ByteArray):Prop:=3≤s.size∧s.extract 0 3=⟨#[85,78,65]⟩
instance (s:ByteArray):Decidable (pJ s):=by unfold pJ; infer_instance
def aJ (s:ByteArray):ParR :=
  if pJ s then (if s.size < 9 then ([],((s.size:Nat):Int),10) else if eM (jf s) then lB s (jf s) 9 [] else ([],3,11))
  else lB s bL 0 []
end Go.PK

namespace Go.PK
open Go Go.RowKit
section
variable {P:Program} {n:Nat} {l:List (Nat×Value)} {own:List (Nat×Obj)} {ro:List au} {ty:TypeId} {x y:Operand} {t t':TypeId}
theorem gv {a:Addr} (hx:ev l x=some (.pointer (some a))):cv P n l own ro (.nilCheck x) ty (.pointer (some a)):=by
  intro A w o ha _ ho _
  simp [execOp,ho,ha.eval hx]
theorem Mem.fresh {w w0:World} {b:Nat} {o:Obj} {rest own0:List (Nat×Obj)} {ro:List au} (h:Mem w ((b,o)::rest) ro) (hs:(w0,aZ own0)∈ro) (he:own0.map (·.1)=rest.map (·.1)):w0.heap.size≤b :=
  h.apart (b,o) (.head _) _ hs (fun q hq e=>by
    have hnd:=h.own_nd
    simp only [List.map_cons,List.nodup_cons] at hnd
    have e:q.1=b:=e
    exact hnd.1 (by rw [← he,← e]; exact List.mem_map_of_mem hq))
variable {lops:List Oper} {Q:Exit→Act→World→Prop} {K:Act→World→Prop} {rest:List (Option Bool×Nat)} {i d:Nat} {pos:String} {af:Array Edge}
theorem gw {τ:Type} {f:FuncId} {fn:Func} {xs:Array Operand} {tys:Array TypeId} {vs:List Value} (R:τ→Value→World→World→Prop) (O:τ→List (Nat×Obj)) (ho:lops[i]?=some ⟨some d,.call ⟨.value (.func f),xs,tys⟩,ty,pos,af,none⟩) (hd:decide (d < n)=true)
    (hf:P.funcs[f]?=some fn) (hbody:(!(fn.name == "runtime.NumGoroutine") && fn.body.isSome)=true) (hx:ll l xs.toList=some vs)
    (hc:∀ w,Mem w own ro→Calls P f vs.toArray w fun e w'=>∃ v,e=.returned v∧∃ x,R x v w w'∧Mem w' (O x) ro)
    (h:∀ v x w1 w2,Mem w1 own ro→R x v w1 w2→Mem w2 (O x) ro→WX P lops.toArray Q K rest n ((d,v)::l) (O x) ((w2,aZ (O x))::ro)):WX P lops.toArray Q K ((none,i)::rest) n l own ro:=by
  intro a w ha hw
  have hd':d < n:=of_decide_eq_true hd
  have hw1:=bS (lops:=lops) (n:=n) (l:=l) (o:=⟨some d,.call ⟨.value (.func f),xs,tys⟩,ty,pos,af,none⟩) rfl a ha
  simp only [gW,List.getElem?_toArray,ho]
  intro w' hl
  rw [if_pos hw1]
  unfold Oper.wp
  rw [dJ (c:=.func f) (fst:=#[]) (cap:=#[]) rfl ha rfl hf hbody hx]
  have hc':=hc w' (hw.later hl)
  have hc2:Calls P f ((#[]:Array Value)++vs.toArray++#[]) w' fun e w2=>∃ v,e=.returned v∧∃ x,R x v w' w2∧Mem w2 (O x) ro:=by simpa using hc'
  refine Calls.mono hc2 fun e w2 he=>?_
  obtain ⟨v,rfl,x,hr,hm⟩:=he
  exact h v x w' w2 (hw.later hl) hr hm _ w2 (ha.put v hd') hm.snap
theorem aH {τ:Type} {f:FuncId} {fn:Func} {xs:Array Operand} {tys:Array TypeId} {vs:List Value} {v:Value} (R:τ→Prop) (O:τ→List (Nat×Obj)) (ho:lops[i]?=some ⟨some d,.call ⟨.value (.func f),xs,tys⟩,ty,pos,af,none⟩) (hd:decide (d < n)=true)
    (hf:P.funcs[f]?=some fn) (hbody:(!(fn.name == "runtime.NumGoroutine") && fn.body.isSome)=true) (hx:ll l xs.toList=some vs)
    (hc:∀ w,Mem w own ro→Calls P f vs.toArray w fun e w'=>e=.returned v∧∃ x,R x∧Mem w' (O x) ro)
    (h:∀ x,R x→WX P lops.toArray Q K rest n ((d,v)::l) (O x) ro):WX P lops.toArray Q K ((none,i)::rest) n l own ro :=
  rm (fst:=#[]) (cap:=#[]) R O ho hd rfl hf hbody hx (fun w hw=>by simpa using hc w hw) h
end
end Go.PK

namespace Go.PK
open Go Go.RowKit
section
variable {P:Program} {n:Nat} {l:List (Nat×Value)} {own:List (Nat×Obj)} {ro:List au} {lops:List Oper} {Q:Exit→Act→World→Prop} {K:Act→World→Prop}
  {rest:List (Option Bool×Nat)} {k:Option Bool} {i d j dj:Nat} {want:Bool} {op:Op} {ty:TypeId} {pos:String} {af:Array Edge}
theorem cV (ho:lops[i]?=some ⟨some d,op,ty,pos,af,some (j,want)⟩) (hj:(lops[j]?).bind (·.dst)=some dj) (hb:l.lookup dj=some (.bool want)) (hk:k.getD true=true) (hd:decide (d < n)=true) {v:Value} (hv:cv P n l own ro op ty v)
    (h:WX P lops.toArray Q K rest n ((d,v)::l) own ro):WX P lops.toArray Q K ((k,i)::rest) n l own ro:=vZ ho (gZ rfl hj hb) rfl hk hd hv h
theorem cY (ho:lops[i]?=some ⟨some d,op,ty,pos,af,some (j,want)⟩) (hj:(lops[j]?).bind (·.dst)=some dj) (hb:l.lookup dj=some (.bool want)) (hk:k.getD true=true) (hd:decide (d < n)=true) {b:Bool} (hv:cv P n l own ro op ty (.bool b))
    (h:∀ c,c=b→WX P lops.toArray Q K rest n ((d,.bool c)::l) own ro):WX P lops.toArray Q K ((k,i)::rest) n l own ro:=vZ ho (gZ rfl hj hb) rfl hk hd hv (h b rfl)
theorem cZ {f:FuncId} {fn:Func} {xs:Array Operand} {tys:Array TypeId} {vs:List Value} (ho:lops[i]?=some ⟨some d,.call ⟨.value (.func f),xs,tys⟩,ty,pos,af,some (j,want)⟩) (hj:(lops[j]?).bind (·.dst)=some dj) (hb:l.lookup dj=some (.bool want)) (hk:k.getD true=true) (hd:decide (d < n)=true)
    (hf:P.funcs[f]?=some fn) (hbody:(!(fn.name == "runtime.NumGoroutine") && fn.body.isSome)=true) (hx:ll l xs.toList=some vs) {v:Value}
    (hc:∀ w,Mem w own ro→Calls P f vs.toArray w fun e w'=>e=.returned v∧Later w w')
    (h:WX P lops.toArray Q K rest n ((d,v)::l) own ro):WX P lops.toArray Q K ((k,i)::rest) n l own ro :=
  f0 (fst:=#[]) (cap:=#[]) ho (gZ rfl hj hb) rfl rfl hk hd rfl hf hbody hx (by simpa using hc) h
theorem fG {f:FuncId} {fn:Func} {xs:Array Operand} {tys:Array TypeId} {vs:List Value} (ho:lops[i]?=some ⟨some d,.call ⟨.value (.func f),xs,tys⟩,ty,pos,af,some (j,want)⟩) (hj:(lops[j]?).bind (·.dst)=some dj) (hb:l.lookup dj=some (.bool want)) (hk:k.getD true=true) (hd:decide (d < n)=true)
    (hf:P.funcs[f]?=some fn) (hbody:(!(fn.name == "runtime.NumGoroutine") && fn.body.isSome)=true) (hx:ll l xs.toList=some vs) {b:Bool}
    (hc:∀ w,Mem w own ro→Calls P f vs.toArray w fun e w'=>e=.returned (.bool b)∧Later w w')
    (h:∀ c,c=b→WX P lops.toArray Q K rest n ((d,.bool c)::l) own ro):WX P lops.toArray Q K ((k,i)::rest) n l own ro:=cZ ho hj hb hk hd hf hbody hx hc (h b rfl)
theorem lC {τ:Type} {f:FuncId} {fn:Func} {xs:Array Operand} {tys:Array TypeId} {vs:List Value} {v:Value} (R:τ→Prop) (O:τ→List (Nat×Obj)) (ho:lops[i]?=some ⟨some d,.call ⟨.value (.func f),xs,tys⟩,ty,pos,af,some (j,want)⟩) (hj:(lops[j]?).bind (·.dst)=some dj) (hb:l.lookup dj=some (.bool want)) (hd:decide (d < n)=true)
    (hf:P.funcs[f]?=some fn) (hbody:(!(fn.name == "runtime.NumGoroutine") && fn.body.isSome)=true) (hx:ll l xs.toList=some vs)
    (hc:∀ w,Mem w own ro→Calls P f vs.toArray w fun e w'=>e=.returned v∧∃ x,R x∧Mem w' (O x) ro)
    (h:∀ x,R x→WX P lops.toArray Q K rest n ((d,v)::l) (O x) ro):WX P lops.toArray Q K ((none,i)::rest) n l own ro:=by
  intro a w ha hw
  have hd':d < n:=of_decide_eq_true hd
  have hw1:=gZ (lops:=lops) (n:=n) (l:=l) (o:=⟨some d,.call ⟨.value (.func f),xs,tys⟩,ty,pos,af,some (j,want)⟩) rfl hj hb a ha
  simp only [gW,List.getElem?_toArray,ho]
  intro w' hl
  rw [if_pos hw1]
  unfold Oper.wp
  have hc':∀ w,Mem w own ro→Calls P f ((#[]:Array Value)++vs.toArray++#[]) w fun e w'=>e=.returned v∧∃ x,R x∧Mem w' (O x) ro:=by simpa using hc
  rw [dJ (fst:=#[]) (cap:=#[]) rfl ha rfl hf hbody hx]
  refine Calls.mono (hc' w' (hw.later hl)) fun e w2 he=>?_
  obtain ⟨rfl,x,hr,hm⟩:=he
  exact h x hr _ w2 (ha.put v hd') hm
end
end Go.PK

namespace Go.PK
open Go Go.RowKit
theorem Qz:(∀ (p:Prop) [Decidable p],(decide p=true)=p)∧(∀ (p:Prop) [Decidable p],(decide p=false)=¬p)∧(∀ a b:Bool,((a && b)=true)=(a=true∧b=true))∧(∀ a b:Bool,((a || b)=true)=(a=true∨b=true))∧(∀ a b:Bool,((a && b)=false)=(a=false∨b=false))∧(∀ a b:Bool,((a || b)=false)=(a=false∧b=false))∧(∀ b:Bool,((!b)=true)=(b=false))∧(∀ b:Bool,((!b)=false)=(b=true))∧(∀ (p:Prop) [Decidable p],(¬¬p)=p) :=
  ⟨fun p _=>decide_eq_true_eq,fun p _=>propext decide_eq_false_iff_not,Bool.and_eq_true,Bool.or_eq_true,fun a b=>propext Bool.and_eq_false_iff,fun a b=>propext Bool.or_eq_false_iff,Bool.not_eq_true',Bool.not_eq_false',fun p _=>propext Decidable.not_not⟩
theorem Qy:(∀ (a:Bool×Bool) (xs bs:List (Bool×Bool)),(a::xs)++bs=a::(xs++bs))∧(∀ xs:List (Bool×Bool),[]++xs=xs)∧(∀ v,kz [] v=v)∧(∀ gs v,kz ((true,true)::gs) v=kz gs v)∧(∀ gs v,kz ((false,false)::gs) v=kz gs v):=⟨fun _ _ _=>rfl,fun _=>rfl,gvl_nil,gvl_t,gvl_f⟩
abbrev Vi (n:Int):Value:=.int .i64 n
abbrev Pt (p:Nat):Value:=.pointer (some ⟨p,0,none⟩)
abbrev Bk (p:Nat) (l:List Value) (t:TypeId):Nat×Obj:=(p,.cells l.toArray t)
theorem Zo {p:Prop} (h:p:=by first | omega | (dsimp only; omega)):p:=h
theorem Zh {p:Prop} (h:p:=by repeat (first | exact List.Mem.head _ | apply List.Mem.tail)):p:=h
theorem Zu {p:Prop} (h:p:=by repeat (first | exact i7.nil | refine i7.cons rfl ?_)):p:=h
theorem Zk {p:Prop} (h:p:=by kernel_rfl):p:=h
theorem Zx {p:Prop} (h:p:=by simp only [maxLen]; omega):p:=h
section
variable {P:Program} {n:Nat} {l:List (Nat×Value)} {own:List (Nat×Obj)} {ro:List au} {lops:List Oper} {Q:Exit→Act→World→Prop} {K:Act→World→Prop}
  {rest:List (Option Bool×Nat)} {k:Option Bool} {i d j dj:Nat} {op:Op} {ty t:TypeId} {pos:String} {af:Array Edge} {x:Operand} {v:Value} {b c want:Bool}
theorem Xm (h:WX P lops.toArray Q K rest n ((d,v)::l) own ro) (ho:lops[i]?=some ⟨some d,.move x,ty,pos,af,none⟩:=by exact rfl) (hk:k.getD true=true:=by exact rfl) (hd:decide (d < n)=true:=by exact rfl) (hx:ev l x=some v:=by exact rfl):WX P lops.toArray Q K ((k,i)::rest) n l own ro:=fj ho hk hd (ey hx) h
theorem Xa (h:WX P lops.toArray Q K rest n ((d,v)::l) own ro) (ho:lops[i]?=some ⟨some d,.assign x,ty,pos,af,none⟩:=by exact rfl) (hk:k.getD true=true:=by exact rfl) (hd:decide (d < n)=true:=by exact rfl) (hx:ev l x=some v:=by exact rfl):WX P lops.toArray Q K ((k,i)::rest) n l own ro:=fj ho hk hd (gp hx) h
theorem Xv (ho:lops[i]?=some ⟨some d,op,ty,pos,af,none⟩) (hv:cv P n l own ro op ty v) (h:WX P lops.toArray Q K rest n ((d,v)::l) own ro) (hk:k.getD true=true:=by exact rfl) (hd:decide (d < n)=true:=by exact rfl):WX P lops.toArray Q K ((k,i)::rest) n l own ro:=fj ho hk hd hv h
theorem Xb (ho:lops[i]?=some ⟨some d,op,ty,pos,af,none⟩) (hv:cv P n l own ro op ty (.bool b)) (h:∀ c,c=b→WX P lops.toArray Q K rest n ((d,.bool c)::l) own ro) (hk:k.getD true=true:=by exact rfl) (hd:decide (d < n)=true:=by exact rfl):WX P lops.toArray Q K ((k,i)::rest) n l own ro:=ew ho hk hd hv h
theorem Xi (ho:lops[i]?=some ⟨some d,op,ty,pos,af,some (j,want)⟩) (hj:(lops[j]?).bind (·.dst)=some dj) (hb:l.lookup dj=some (.bool b)) (hv:b=want→cv P n l own ro op ty v) (h:WX P lops.toArray Q K rest n ((d,kz ([]++[(b,want)]) v)::l) own ro) (hk:k.getD true=true:=by exact rfl) (hd:decide (d < n)=true:=by exact rfl):WX P lops.toArray Q K ((k,i)::rest) n l own ro:=fP [] ho hj hb hk hd (fun hg=>hv hg.1) h
theorem Xg (h:WX P lops.toArray Q K rest n ((d,kz ([]++[(b,want)]) v)::l) own ro) (ho:lops[i]?=some ⟨some d,.move x,ty,pos,af,some (j,want)⟩:=by exact rfl) (hj:(lops[j]?).bind (·.dst)=some dj:=by exact rfl) (hb:l.lookup dj=some (.bool b):=by exact rfl) (hk:k.getD true=true:=by exact rfl) (hd:decide (d < n)=true:=by exact rfl) (hx:b=want→ev l x=some v:=by intro hg0; (try subst hg0); (try simp only [Qy]); exact rfl):WX P lops.toArray Q K ((k,i)::rest) n l own ro:=fP [] ho hj hb hk hd (fun hg=>ey (hx hg.1)) h
theorem Xj (ho:lops[i]?=some ⟨some d,op,ty,pos,af,some (j,want)⟩) (hj:(lops[j]?).bind (·.dst)=some dj) (hb:l.lookup dj=some (.bool b)) (hv:b=want→cv P n l own ro op ty (.bool c)) (h:∀ c',c'=c→WX P lops.toArray Q K rest n ((d,kz ([]++[(b,want)]) (.bool c'))::l) own ro) (hk:k.getD true=true:=by exact rfl) (hd:decide (d < n)=true:=by exact rfl):WX P lops.toArray Q K ((k,i)::rest) n l own ro:=fk [] ho hj hb hk hd (fun hg=>hv hg.1) h
theorem Vl {td:TypeDesc} {p o:Nat} (ht:P.underlying t=some td) (hx:ev l x=some (.pointer (some ⟨p,o,none⟩))) (hd:jy td=false:=by exact rfl) (hc:At own ro p o v:=by first | exact ab (.head _) rfl | exact ab (.tail _ (.head _)) rfl | exact ab (.tail _ (.tail _ (.head _))) rfl | (apply ab; ((repeat (first | exact List.Mem.head _ | apply List.Mem.tail | apply List.mem_append_right))); rfl) | (refine an (by first | exact .head _ | exact .tail _ (.head _) | exact .tail _ (.tail _ (.head _)) | simp) ?_ (by assumption); trivial)):cv P n l own ro (.load t x) ty v:=a6 ht hd hx hc
theorem Ze (h:S K n l own ro):WX P lops.toArray Q K [] n l own ro:=x_end h
theorem Zt {y:Code} (h:W P y Q n l own ro):S (Exit.then (y.wp P Q) Q .normal) n l own ro:=h
theorem Zs {x y:Code} (h:W P x (Exit.then (y.wp P Q) Q) n l own ro):W P (.seq x y) Q n l own ro:=w_seq h
theorem Zr {id:Nat} (h:WX P lops.toArray Q (fun a w=>Q .normal a w) (dT 0 lops.length) n l own ro):W P (.region id lops.toArray false) Q n l own ro:=rg_text h
theorem Xn (h:WX P lops.toArray Q K rest n ((d,v)::l) own ro) (ho:lops[i]?=some ⟨some d,.nilCheck x,ty,pos,af,none⟩:=by exact rfl) (hk:k.getD true=true:=by exact rfl) (hd:decide (d < n)=true:=by exact rfl) (hv:cv P n l own ro (.nilCheck x) ty v:=by exact gv rfl):WX P lops.toArray Q K ((k,i)::rest) n l own ro:=fj ho hk hd hv h
theorem Xe {e:Nat} (h:WX P lops.toArray Q K rest n ((d,v)::l) own ro) (ho:lops[i]?=some ⟨some d,.extract x e,ty,pos,af,none⟩:=by exact rfl) (hk:k.getD true=true:=by exact rfl) (hd:decide (d < n)=true:=by exact rfl) (hv:cv P n l own ro (.extract x e) ty v:=by exact eE rfl rfl):WX P lops.toArray Q K ((k,i)::rest) n l own ro:=fj ho hk hd hv h
theorem Xl {td:TypeDesc} {p o:Nat} (ho:lops[i]?=some ⟨some d,.load t x,ty,pos,af,none⟩) (ht:P.underlying t=some td) (hx:ev l x=some (.pointer (some ⟨p,o,none⟩))) (hc:At own ro p o v) (h:WX P lops.toArray Q K rest n ((d,v)::l) own ro) (hd':jy td=false:=by exact rfl) (hk:k.getD true=true:=by exact rfl) (hd:decide (d < n)=true:=by exact rfl):WX P lops.toArray Q K ((k,i)::rest) n l own ro:=fj ho hk hd (a6 ht hd' hx hc) h
end
end Go.PK

namespace Go.PK
open Go Go.RowKit
section
variable {P:Program} {n:Nat} {l:List (Nat×Value)} {own:List (Nat×Obj)} {ro:List au} {ty:TypeId} {x y:Operand} {t t':TypeId} {b:Nat}
theorem ql {w:World} {cs:Array Value} {e:TypeId} {fz:Nat×Nat} (hw:Mem w own ro) (hb:(b,Obj.cells cs e fz)∈own):w.shape? b=some (e,cs.size):=by
  have hg:w.heap[b]?=some (.cells cs e fz):=hw.own_at _ hb
  simp [World.shape?,hg]
theorem v_toUns {T e:TypeId} {m:Nat} {cs:Array Value} {fz:Nat×Nat} {off:Nat} (hs:P.underlying t=some (.pointer T)) (hd:P.underlying t'=some .unsafePointer) (ht:(P.info? T).map (·.size)=some (m+1)) (hx:ev l x=some (.pointer (some ⟨b,off,none⟩))) (hb:(b,Obj.cells cs e fz)∈own) (ho:off < cs.size) :
    cv P n l own ro (.convert t t' x) ty (.pointer (some ⟨b,off,none⟩)):=by
  intro A w o ha hw hop _
  obtain ⟨j,hj,hjs⟩:=Option.map_eq_some_iff.1 ht
  have:=Lib.run_to_unsafe (P:=P) (w:=w) (src:=t) (dst:=t') ⟨b,off,none⟩ hs hd hj (by rw [hjs]; omega) (ql hw hb) ho
  simp [execOp,hop,ha.eval hx,this]
theorem ya {T e:TypeId} {cs:Array Value} {fz:Nat×Nat} {off:Nat} (hs:P.underlying t=some .unsafePointer) (hd:P.underlying t'=some (.pointer T)) (ht:∃ j,P.info? T=some j) (hx:ev l x=some (.pointer (some ⟨b,off,none⟩))) (hb:(b,Obj.cells cs e fz)∈own)
    (hl:liesAt P P.depth e (cs.size / P.cellsOf e) off T 1=true):cv P n l own ro (.convert t t' x) ty (.pointer (some ⟨b,off,none⟩)):=by
  intro A w o ha hw hop _
  obtain ⟨j,hj⟩:=ht
  have:=Lib.run_from_unsafe (P:=P) (w:=w) (src:=t) (dst:=t') ⟨b,off,none⟩ hs hd hj (ql hw hb) hl
  simp [execOp,hop,ha.eval hx,this]
theorem v_noEsc {f:FuncId} {fn:Func} {v:Value} {tys:Array TypeId} (hf:P.funcs[f]?=some fn) (hname:(fn.name == "runtime.NumGoroutine")=false) (hb:fn.body.isNone=true) (hn:Extern.findNext fn=none) (he:Extern.find fn=some Extern.AbiNoEscape.same) (hx:ev l x=some v) :
    cv P n l own ro (.call ⟨.value (.func f),#[x],tys⟩) ty v:=by
  intro A w o ha _ hop _
  have h1:=run_callFunc_extern hf hname hb hn he #[v] w
  rw [Lib.run_noEscape] at h1
  have hf2:A.eval (.func f)=.func (.func f) #[] #[]:=rfl
  simp [execOp,hop,resolve,invoke,ha.eval hx,hf2,Deferred.ofValue,h1]
theorem gx {T:TypeId} {o:Option Addr} (ht:P.underlying t=some (.pointer T)) (hx:ev l x=some (.pointer o)) (hy:ev l y=some (.pointer none)):cv P n l own ro (.binOp .eql t x y t') ty (.bool o.isNone):=by
  intro A w q ha _ hq _
  have h:∀ d:Nat,(Op.equalIn (d+1) t (.pointer o) (.pointer none)).run P w=.ok o.isNone w:=fun d=>by
    cases o <;> simp [Op.equalIn,run_underlying ht]
  have h2:(Op.equal t (.pointer o) (.pointer none)).run P w=.ok o.isNone w:=h 9999
  simp [execOp,hq,ha.eval hx,ha.eval hy,eqGuard,binOp,h2]
theorem v_pne {T:TypeId} {a:Addr} {j:TypeInfo} (ht:P.underlying t=some (.pointer T)) (hj:P.info? T=some j) (hx:ev l x=some (.pointer (some a))) (hy:ev l y=some (.pointer (some a))):cv P n l own ro (.binOp .neq t x y t') ty (.bool false):=by
  intro A w q ha _ hq _
  have h2:=Lib.run_neq_ptr_same (P:=P) (w:=w) a ht hj
  simp [execOp,hq,ha.eval hx,ha.eval hy,eqGuard,h2]
end
def ef (T e:TypeId) (b:Nat) (pp:Value) (r:ak) (k:Nat):List (Nat×Obj):=(b,.cells #[pp,av r k] T (0,0))::aA e r
def yd (b:Nat) (pp:Value):Prop:=pp=.pointer none∨pp=.pointer (some ⟨b,0,none⟩)
theorem bld2_is {T e:TypeId} {B b k:Nat} {pp:Value} {r:ak} {bs:List UInt8} {w:World} {l2:List (Nat×Obj)} {ro:List au} (hm:Mem w (ef T e b pp r k++l2) ro) (hp:yd b pp) (hr:ag 1 r k (d3 bs)) (hk:k=bs.length) (hB:∀ q∈ef T e b pp r k,B≤q.1):Lib.IsBuilderF T e B b (d3 bs) w:=by
  subst hk
  have hb:w.heap[b]?=some (.cells #[pp,av r bs.length] T (0,0)):=hm.own_at (b,_) (by simp [ef])
  have key:w.ownsRowF B e 1 (av r bs.length) (d3 bs).length (d3 bs)∧(av r bs.length).ownBlock≠some b:=by
    rw [rp]
    cases r with
    | none =>
      have h0:bs=[]:=List.eq_nil_of_length_eq_zero hr.2
      subst h0
      exact ⟨World.ownsRowF_nil ..,by simp [av,jI,Value.ownBlock]⟩
    | some x =>
      obtain ⟨g,cs,c⟩:=x
      obtain ⟨h1,h2,h3,h4,h5⟩:=hr
      dsimp only at h2 h3 h4
      have hg:w.heap[g]?=some (.cells cs.toArray e (0,0)):=hm.own_at (g,_) (by simp [ef,aA])
      refine ⟨⟨h1,.inr ⟨g,c,cs.toArray,(0,0),rfl,hB (g,.cells cs.toArray e (0,0)) (List.mem_cons_of_mem _ (.head _)),hg,Nat.zero_le _,h2,h3,by simpa using h4,by simpa using h5⟩⟩,?_⟩
      intro he
      have he:g=b:=Option.some.inj he
      have hnd:=hm.own_nd
      simp only [ef,aA,List.cons_append,List.nil_append,List.map_cons,List.nodup_cons] at hnd
      exact hnd.1 (by simp [he])
  rcases hp with hp | hp
  · exact .inl ⟨hB (b,.cells #[pp,av r bs.length] T (0,0)) (.head _),av r bs.length,by rw [← hp]; exact hb,key⟩
  · exact .inr ⟨hB (b,.cells #[pp,av r bs.length] T (0,0)) (.head _),av r bs.length,by rw [← hp]; exact hb,key⟩
theorem Mem.after {w w':World} {B:Nat} {l1 l2:List (Nat×Obj)} {ro:List au} (hm:Mem w (l1++l2) ro) (hB:∀ s∈ro,s.1.heap.size≤B) (h2:∀ q∈l2,q.1 < B) (hl:Below B w w'):Mem w' l2 ro:=by
  have hl2:∀ q∈l2,q∈l1++l2:=fun q hq=>List.mem_append_right _ hq
  refine ⟨fun q hq=>(hl.block q.1 (h2 q hq)).trans (hm.own_at q (hl2 q hq)),?_,fun s hs=>?_,fun s hs k hk hlt=>(hl.block k (Nat.lt_of_lt_of_le hlt (hB s hs))).trans (hm.ro_at s hs k hk hlt),fun q hq s hs hd=>hm.apart q (hl2 q hq) s hs hd⟩
  · have:=hm.own_nd
    rw [List.map_append,List.nodup_append] at this
    exact this.2.1
  · obtain ⟨a,c,d,f⟩:=hm.ro_st s hs
    exact ⟨hl.os.trans a,hl.tape.trans c,hl.output.trans d,Nat.le_trans f hl.size⟩
theorem Mem.newB {w w0:World} {l1 l2 own0:List (Nat×Obj)} {ro:List au} (h:Mem w (l1++l2) ro) (hs:(w0,aZ own0)∈ro) (he:∀ k,k∈own0.map (·.1)→k∈l2.map (·.1)):∀ q∈l1,w0.heap.size≤q.1:=fun q hq =>
  h.apart q (List.mem_append_left _ hq) _ hs (fun q2 hq2 e=>by
    have hnd:=h.own_nd
    rw [List.map_append,List.nodup_append] at hnd
    exact hnd.2.2 q.1 (List.mem_map_of_mem hq) q.1 (he _ (by rw [← e]; exact List.mem_map_of_mem hq2)) rfl)
end Go.PK
