/- Of the proofs of YtifekogdhjabaaaGreatDoor: PkReg PkEng PkOps PkOps2 PkOps3 PkCtl PkData PkLib PkApp PkMap PkFill PkSchema PkRead PkStd PkEx PkMore PkRows PkMade PkDeep PkDeep2 PkShell PkShell2 PkTy PkOps4 PkCal PkCal2 PkCal3 PkOps5 PkInts PkBytes PkBld PkEdi PkOps6 PkTurnG PkZ PkBld2, put together. -/
import Derived.StillTail
import Derived.Deep.Quiet
import Derived.Deep.Draws
import Derived.Below
import Derived.WalkKit
import Derived.WalkSpells
import Derived.WalkLawsBesides
import Derived.Maps.AppendAt
import Derived.Maps.Keyed
import Derived.Scope
import Derived.IntWalk
import Derived.Laws.IdiomStrings
import Derived.Laws.OwnMore
import Derived.ProofKit
import Derived.OpenShut
import Derived.ReadAgain
import Derived.Deep.Slices
import Derived.Lib.ConvBytes
import Derived.Laws.AppendOwn
import Derived.Lib.FrozenHead
import Derived.Lib.OthersKept
import Derived.Laws.Externs
import Derived.Lib.Builder
set_option linter.unusedVariables false
set_option linter.unusedSimpArgs false
set_option maxRecDepth 100000
set_option maxHeartbeats 4000000

namespace Go.PK
open Go Go.RowKit
def Later (w w':World):Prop:=Below w.heap.size w w'
theorem Later.refl (w:World):Later w w:=Below.refl _ _
theorem Later.trans {a b c:World} (h:Later a b) (k:Later b c):Later a c:=Below.trans h (Below.mono k h.size)
theorem Later.drew (w:World):Later w w.drew:=(Below.refl _ _).drew
theorem Later.drewN (w:World) (n:Nat):Later w (w.drewN n):=⟨rfl,rfl,rfl,Nat.le_refl _,fun _ _=>rfl⟩
theorem Later.alloc (w:World) (o:Obj):Later w (w.alloc o):=(Below.refl _ _).alloc (Nat.le_refl _) o
section
variable {P:Program} {ops:Array Oper} {md:Region.Mode}
def jb (P:Program) (w:World) (v:Value):Result Next→Prop
  | .ok (.value u) w'=>w'=w∧u=v
  | .ok .skip w'=>w'=w∧v=undef
  | .ok (.enter f args) w'=>w'=w∧Calls P f args w (fun e w''=>e=.returned v∧Later w w'')
  | _=>False
def fZ (P:Program) (o:Oper) (a:Act) (w:World) (v:Value):Prop:=jb P w v ((execOp a.eval o).run P w)
def flt (P:Program) (o:Oper) (a:Act) (w:World) (next:Act→Prop):Prop:=∃ v,(∀ w',Later w w'→fZ P o a w' v)∧next (a.put o.dst v)
def grw (P:Program) (o:Oper) (a:Act) (w:World) (next:Act→World→Prop):Prop :=
  ∀ w',Later w w'→o.wp P a w' (fun a'' w''=>Later w' w''∧next a'' w'') (fun _ _ _=>False)
def kD (P:Program) (ops:Array Oper) (Q:Act→World→Prop):List (Bool×Nat)→Act→World→Prop
  | [],a,w=>Q a w
  | (b,i)::rest,a,w =>
    match ops[i]? with
    | none=>False
    | some o =>
      if Region.wanted o (yielded ops a.tmps) then
        (match b with
         | true=>flt P o a w (fun a'=>kD P ops Q rest a' w)
         | false=>grw P o a w (kD P ops Q rest))
      else kD P ops Q rest (a.put o.dst undef) w
def canOp (P:Program) (ops:Array Oper) (i:Nat) (K:Act→World→Prop) (a:Act) (w:World):Prop :=
  ∀ w',Later w w'→wpOp P ops (fun _ _ _=>False) i (fun a'' w''=>Later w' w''∧K a'' w'') a w'
theorem vb {i:Nat} {a:Act} {w:World} {K K':Act→World→Prop} (h:∀ a w,K a w→K' a w) (hh:canOp P ops i K a w):canOp P ops i K' a w :=
  fun w' hw=>wpOp_mono (fun _ _ hk=>⟨hk.1,h _ _ hk.2⟩) (hh w' hw)
theorem tq {i:Nat} {a:Act} {w w1:World} {K:Act→World→Prop} (hw:Later w w1) (hh:canOp P ops i K a w):canOp P ops i K a w1 :=
  fun w' hw'=>hh w' (hw.trans hw')
def ip (P:Program) (md:Region.Mode) (ops:Array Oper) (n:Nat) (L:Array Bool→Act→World→Prop):Nat→Array Bool→Act→World→Prop
  | 0,listed,a,w=>L listed a w
  | f+1,listed,a,w =>
    Region.ready md ops listed≠[]∧∀ i∈Region.ready md ops listed,i < n∧canOp P ops i (ip P md ops n L f (listed.setIfInBounds i true)) a w
def hZ (L:Array Bool→Act→World→Prop):Prop:=∀ listed a w w',Later w w'→L listed a w→L listed a w'
theorem eQ {n:Nat} {L:Array Bool→Act→World→Prop} (hL:hZ L):∀ (f:Nat) (listed:Array Bool) (a:Act) (w w':World),Later w w' →
    ip P md ops n L f listed a w→ip P md ops n L f listed a w'
  | 0,_,_,_,_,h,hh=>hL _ _ _ _ h hh
  | _+1,_,_,_,_,h,hh=>⟨hh.1,fun i hi=>⟨(hh.2 i hi).1,tq h (hh.2 i hi).2⟩⟩
theorem jc {n g:Nat} {L:Array Bool→Act→World→Prop} {Q':Exit→Act→World→Prop} (hL:∀ listed a w,L listed a w→wpAny P md ops Q' g listed a w) :
    ∀ (f:Nat) (listed:Array Bool) (a:Act) (w:World),ip P md ops n L f listed a w→wpAny P md ops Q' (f+g) listed a w
  | 0,listed,a,w,h=>by rw [Nat.zero_add]; exact hL _ _ _ h
  | f+1,listed,a,w,h=>by
    rw [show f+1+g=(f+g)+1 by omega]
    refine ⟨fun h0=>absurd h0 h.1,fun i hi=>?_⟩
    have h1:=(h.2 i hi).2 w (Later.refl w)
    have h2:wpOp P ops (fun _ _ _=>False) i (wpAny P md ops Q' (f+g) (listed.setIfInBounds i true)) a w :=
      wpOp_mono (fun a' w' h'=>jc hL f _ a' w' h'.2) h1
    -- the exits other than the normal one do not come up
    unfold wpOp at h2 ⊢
    split
    · rename_i ho; simp only [ho] at h2; exact h2
    · rename_i o ho
      simp only [ho] at h2
      split
      · rename_i hw
        simp only [hw,if_true] at h2
        rcases h2 with h2 | ⟨_,_,_,h2⟩
        · refine .inl ?_
          unfold Oper.wp at h2 ⊢
          generalize (execOp a.eval o).run P w=r at *
          cases r with
          | ok x w' =>
            cases x <;> simp only [Oper.upon] at h2 ⊢ <;> first
              | exact h2
              | (refine Calls.mono h2 fun e w'' he=>?_
                 cases e with
                 | returned u=>exact he
                 | panicked c=>exact he.elim
                 | outgrown=>obtain ⟨_,_,hf⟩:=he; exact hf.elim)
          | halt x w'=>cases x <;> simp only [Oper.upon] at h2 ⊢
        · exact h2.elim
      · rename_i hw
        simp only [hw] at h2
        exact h2
def da (P:Program) (ops:Array Oper) (o:Oper) (v:Value) (a:Act) (w:World):Prop :=
  (Region.wanted o (yielded ops a.tmps)=true∧∀ w',Later w w'→fZ P o a w' v)∨(Region.wanted o (yielded ops a.tmps)=false∧v=undef)
theorem da.later {o:Oper} {v:Value} {a:Act} {w w':World} (hw:Later w w') (h:da P ops o v a w):da P ops o v a w' :=
  h.imp (fun h=>⟨h.1,fun w1 h1=>h.2 w1 (hw.trans h1)⟩) id
theorem da.of_same {o:Oper} {v:Value} {a a':Act} {w:World} (hy:da P ops o v a w) (he:execOp a'.eval o=execOp a.eval o)
    (hw:Region.wanted o (yielded ops a'.tmps)=Region.wanted o (yielded ops a.tmps)):da P ops o v a' w:=by
  unfold da fZ at *
  rw [he,hw]
  exact hy
theorem da.canOp {i:Nat} {o:Oper} {v:Value} {a:Act} {w:World} (hi:ops[i]?=some o) (hy:da P ops o v a w) {K:Act→World→Prop}
    (h:∀ w',Later w w'→K (a.put o.dst v) w'):canOp P ops i K a w:=by
  intro w' hw'
  unfold Go.wpOp
  simp only [hi]
  rcases hy with ⟨hw,hv⟩ | ⟨hw,rfl⟩
  · rw [if_pos hw]
    refine .inl ?_
    have h3:=hv w' hw'
    unfold fZ at h3
    unfold Oper.wp
    generalize (execOp a.eval o).run P w'=r at *
    cases r with
    | ok n w1 =>
      cases n <;> simp only [jb] at h3 <;> simp only [Oper.upon]
      case value u=>obtain ⟨rfl,rfl⟩:=h3; exact ⟨Later.refl _,h _ hw'⟩
      case skip=>obtain ⟨rfl,rfl⟩:=h3; exact ⟨Later.refl _,h _ hw'⟩
      case enter f args =>
        obtain ⟨rfl,hc⟩:=h3
        exact hc.mono fun e w2 ⟨he,hl⟩=>by subst he; exact ⟨hl,h _ (hw'.trans hl)⟩
    | halt x w1=>simp only [jb] at h3
  · rw [if_neg (by rw [hw]; exact Bool.false_ne_true)]
    exact ⟨Later.refl _,h _ hw'⟩
theorem yn {j:Nat} {oi oj:Oper} {v:Value} (hj:ops[j]?=some oj) (hap:oi.apart ops oj=true)
    (hsi:∀ cs b,oi.op≠.select cs b) (hsj:∀ cs b,oj.op≠.select cs b) {K:Act→World→Prop} {a:Act} {w:World}
    (hy:da P ops oi v a w) (h:canOp P ops j K (a.put oi.dst v) w) :
    canOp P ops j (fun a' w'=>da P ops oi v a' w'∧K (a'.put oi.dst v) w') a w:=by
  obtain ⟨h1,h2,h3⟩:=Oper.apart_spec hap
  intro w' hw'
  have hy':=hy.later hw'
  have keep:∀ (a:Act) (w:World),da P ops oi v a w→∀ u,da P ops oi v (a.put oj.dst u) w:=fun a w hy u =>
    hy.of_same (execOp_put oi hsi a oj.dst u h3) (wanted_put oi a oj.dst u h3)
  have keepD:∀ d,da P ops oi v { a with defers:=d::a.defers } w':=fun d=>hy'.of_same rfl rfl
  have h:=h w' hw'
  unfold Go.wpOp at *
  simp only [hj] at *
  rw [wanted_put oj a oi.dst v h1] at h
  split
  · rename_i hw
    simp only [hw,if_true] at h
    rcases h with h | ⟨hasks,_,_,hlets⟩
    case inr=>exact hlets.elim
    refine .inl ?_
    unfold Oper.wp at *
    rw [execOp_put oj hsj a oi.dst v h1] at h
    generalize (execOp a.eval oj).run P w'=r at *
    cases r with
    | ok n w1 =>
      cases n <;> simp only [Oper.upon] at h ⊢
      case value u=>exact ⟨h.1,(keep a _ hy' u).later h.1,by rw [← Act.put_comm a v u h2]; exact h.2⟩
      case skip=>exact ⟨h.1,(keep a _ hy' _).later h.1,by rw [← Act.put_comm a v undef h2]; exact h.2⟩
      case defer d =>
        refine ⟨h.1,(keep _ _ (keepD d) _).later h.1,?_⟩
        rw [← Act.put_comm _ v undef h2,← Act.put_defers]
        exact h.2
      case enter f args =>
        -- the callee's own start: the world w1 may differ from w'
        refine Calls.mono h fun e w2 he=>?_
        cases e with
        | returned u=>exact ⟨he.1,(keep a _ hy' u).later he.1,by rw [← Act.put_comm a v u h2]; exact he.2⟩
        | panicked c=>exact he
        | outgrown=>exact he
      case row row args=>exact Rows.mono h fun u w2 he=>⟨he.1,(keep a _ hy' u).later he.1,by rw [← Act.put_comm a v u h2]; exact he.2⟩
    | halt x w1 =>
      cases x <;> simp only [Oper.upon] at h ⊢
  · rename_i hw
    simp only [hw] at h
    exact ⟨h.1,(keep a _ hy' _).later h.1,by rw [← Act.put_comm a v undef h2]; exact h.2⟩
theorem lu {n i:Nat} {oi:Oper} {v:Value} {L:Array Bool→Act→World→Prop} (hL:hZ L) (hi:ops[i]?=some oi) (hsel:∀ (j:Nat) (o:Oper) cs b,ops[j]?=some o→o.op≠.select cs b)
    (hnt:∀ listed,HeadInv md ops n listed→listed.getD i true=false→∀ j∈Region.ready md ops listed,j < n)
    (hdone:∀ listed a w,L listed a w→∀ j∈Region.ready md ops listed,n≤j) (hin:i < n) :
    ∀ (f:Nat) (listed:Array Bool) (a:Act) (w:World),HeadInv md ops n listed →
      (∀ j oj,ops[j]?=some oj→j≠i→listed.getD j true=false→(∀ e∈oj.after,Region.binds md e=true→e.on≠i)→oi.apart ops oj=true) →
      i∈Region.ready md ops listed→da P ops oi v a w →
      ip P md ops n L f (listed.setIfInBounds i true) (a.put oi.dst v) w→ip P md ops n L (f+1) listed a w:=by
  intro f
  induction f with
  | zero =>
    intro listed a w inv _ hr hy H
    have hun:=(mem_ready.1 hr).1
    refine ⟨fun h=>(by rw [h] at hr; cases hr),fun j hj=>?_⟩
    have hjn:=hnt listed inv hun j hj
    refine ⟨hjn,?_⟩
    by_cases hji:j=i
    · subst hji; exact hy.canOp hi fun w' hw'=>hL _ _ _ _ hw' H
    · have:=hdone _ _ _ H j (ready_mono hj hji)
      omega
  | succ f ih =>
    intro listed a w inv hfree hr hy H
    have hun:=(mem_ready.1 hr).1
    refine ⟨fun h=>(by rw [h] at hr; cases hr),fun j hj=>?_⟩
    have hjn:=hnt listed inv hun j hj
    refine ⟨hjn,?_⟩
    by_cases hji:j=i
    · subst hji; exact hy.canOp hi fun w' hw'=>eQ hL _ _ _ _ _ hw' H
    · have h1:=(H.2 j (ready_mono hj hji)).2
      obtain ⟨hjun,oj,hoj,hall⟩:=mem_ready.1 hj
      have hnot:∀ e∈oj.after,Region.binds md e=true→e.on≠i:=fun e he hb heq=>by
        have h1:=hall e he hb
        rw [heq,getD_both hun] at h1
        cases h1
      have h2:=yn hoj (hfree j oj hoj hji hjun hnot) (fun cs b=>hsel i oi cs b hi) (fun cs b=>hsel j oj cs b hoj) hy h1
      have hfree':∀ k ok,ops[k]?=some ok→k≠i→(listed.setIfInBounds j true).getD k true=false →
          (∀ e∈ok.after,Region.binds md e=true→e.on≠i)→oi.apart ops ok=true:=fun k ok hk hki hun hno=>by
        refine hfree k ok hk hki ?_ hno
        by_cases hjk:j=k
        · subst hjk; exact hjun
        · rw [getD_set_ne true hjk] at hun; exact hun
      refine vb (fun a' w' h3=>ih (listed.setIfInBounds j true) a' w' (inv.set hj hjn) hfree' (ready_mono hr (Ne.symm hji)) h3.1 ?_) h2
      rw [Array.setIfInBounds_comm _ _ hji]
      exact h3.2
def nJ (md:Region.Mode) (ops:Array Oper) (n:Nat):List (Bool×Nat)→Array Bool→Bool
  | [],listed=>Region.seqB md ops (ops.size - n) n listed
  | (true,i)::rest,listed=>decide (i < n) && (Region.ready md ops listed).contains i && Region.free md ops listed i && nJ md ops n rest (listed.setIfInBounds i true)
  | (false,i)::rest,listed=>decide (i < n) && decide (Region.ready md ops listed=[i]) && nJ md ops n rest (listed.setIfInBounds i true)
def An (md:Region.Mode) (ops:Array Oper) (n:Nat) (plan:List (Bool×Nat)):Bool :=
  Region.noSelect ops && (decide (n=ops.size) || (decide (n < ops.size) && Region.sinkB md ops n && Region.chainB md ops n)) && decide (plan.length=n) && nJ md ops n plan (Array.replicate ops.size false)
theorem nK {listed:Array Bool}:∀ j∈Region.ready md ops listed,j < ops.size:=fun j hj=>by
  obtain ⟨_,o,ho,_⟩:=mem_ready.1 hj
  exact (Array.getElem?_eq_some_iff.1 ho).1
theorem ie {n:Nat} {Q:Act→World→Prop} (hQ:∀ a w w',Later w w'→Q a w→Q a w') (hsel:Region.noSelect ops=true)
    (hnt:∀ i,i < n→∀ listed,HeadInv md ops n listed→listed.getD i true=false→∀ j∈Region.ready md ops listed,j < n) :
    ∀ (plan:List (Bool×Nat)) (listed:Array Bool) (a:Act) (w:World),HeadInv md ops n listed→nJ md ops n plan listed=true→kD P ops Q plan a w →
      ip P md ops n (fun listed' a' w'=>Region.seqB md ops (ops.size - n) n listed'=true∧Q a' w') plan.length listed a w
  | [],listed,a,w,_,hB,h=>⟨by simpa [nJ] using hB,h⟩
  | (true,i)::rest,listed,a,w,inv,hB,h=>by
    simp only [nJ,Bool.and_eq_true,decide_eq_true_eq] at hB
    obtain ⟨⟨⟨hin,hr⟩,hf⟩,hB'⟩:=hB
    have hr':i∈Region.ready md ops listed:=by simpa using hr
    unfold kD at h
    cases ho:ops[i]? with
    | none=>simp only [ho] at h
    | some o =>
      simp only [ho] at h
      obtain ⟨v,hy,hK⟩:∃ v,da P ops o v a w∧kD P ops Q rest (a.put o.dst v) w:=by
        by_cases hw:Region.wanted o (yielded ops a.tmps)=true
        · rw [if_pos hw] at h
          obtain ⟨v,h1,h2⟩:=h
          exact ⟨v,.inl ⟨hw,h1⟩,h2⟩
        · rw [if_neg hw] at h
          exact ⟨undef,.inr ⟨by simpa using hw,rfl⟩,h⟩
      exact lu (fun _ _ _ _ hw hq=>⟨hq.1,hQ _ _ _ hw hq.2⟩) ho (Region.noSelect_spec hsel) (hnt i hin) (fun _ _ _ hL=>seqB_ready hL.1) hin rest.length listed a w inv (Region.free_spec ho hf) hr' hy
        (ie hQ hsel hnt rest _ _ _ (inv.set hr' hin) hB' hK)
  | (false,i)::rest,listed,a,w,inv,hB,h=>by
    simp only [nJ,Bool.and_eq_true,decide_eq_true_eq] at hB
    obtain ⟨⟨hin,hr⟩,hB'⟩:=hB
    have hr':i∈Region.ready md ops listed:=by rw [hr]; simp
    unfold kD at h
    cases ho:ops[i]? with
    | none=>simp only [ho] at h
    | some o =>
      simp only [ho] at h
      refine ⟨by rw [hr]; simp,fun j hj=>?_⟩
      rw [hr] at hj
      have hji:j=i:=by simpa using hj
      subst hji
      refine ⟨hin,fun w' hw'=>?_⟩
      unfold wpOp
      simp only [ho]
      by_cases hw:Region.wanted o (yielded ops a.tmps)=true
      · rw [if_pos hw] at h ⊢
        exact .inl (Oper.wp_mono (fun a' w2 hk=>⟨hk.1,ie hQ hsel hnt rest _ _ _ (inv.set hr' hin) hB' hk.2⟩) (h w' hw'))
      · rw [if_neg hw] at h ⊢
        exact ⟨Later.refl _,eQ (fun _ _ _ _ hw hq=>⟨hq.1,hQ _ _ _ hw hq.2⟩) _ _ _ _ _ hw' (ie hQ hsel hnt rest _ _ _ (inv.set hr' hin) hB' h)⟩
theorem pL {id:Nat} {Q:Exit→Act→World→Prop} {a:Act} {w:World} {l:List Oper} (n:Nat) (plan:List (Bool×Nat)) (hm:P.follows .mixedOrders=true) (hB:An .any l.toArray n plan=true)
    (h:kD P l.toArray (fun a' w'=>∀ w'',Later w' w''→wpList P l.toArray Q (l.drop n) a' w'') plan a w):(Code.region id l.toArray true).wp P Q a w:=by
  simp only [An,Bool.and_eq_true,decide_eq_true_eq] at hB
  obtain ⟨⟨⟨hsel,hn⟩,hlen⟩,hpl⟩:=hB
  have hnle:n≤l.toArray.size:=by
    rcases Bool.or_eq_true _ _▸hn with hn | hn
    · simp only [decide_eq_true_eq] at hn; omega
    · simp only [Bool.and_eq_true,decide_eq_true_eq] at hn; omega
  have hnt:∀ i,i < n→∀ listed,HeadInv .any l.toArray n listed→listed.getD i true=false→∀ j∈Region.ready .any l.toArray listed,j < n:=by
    intro i hin listed inv hun j hj
    rcases Bool.or_eq_true _ _▸hn with hn | hn
    · simp only [decide_eq_true_eq] at hn
      have:=nK j hj
      omega
    · simp only [Bool.and_eq_true,decide_eq_true_eq] at hn
      obtain ⟨⟨hn,hs⟩,hc⟩:=hn
      rcases Nat.lt_or_ge j n with h | h
      · exact h
      · exact absurd hj (tail_waits hs hc hn inv _ i rfl hin hun j h)
  have inv0:HeadInv .any l.toArray n (Array.replicate l.toArray.size false) :=
    ⟨by simp,fun j oj _ hl=>(by rw [getD_replicate_false] at hl; cases hl),fun t _ ht=>getD_in (by simpa using ht) (getD_replicate_false _ _)⟩
  have H:=ie (P:=P) (md:=.any) (Q:=fun a' w'=>∀ w'',Later w' w''→wpList P l.toArray Q (l.drop n) a' w'') (fun a w w' hw hq w'' hw''=>hq w'' (hw.trans hw'')) hsel hnt plan _ a w inv0 hpl h
  refine wp_region_any hm ?_
  have hdl:(l.drop n).length=l.toArray.size - n:=by simp
  have:=jc (Q':=Q) (g:=l.toArray.size - n) (fun listed a' w' hL=>by
    have:=wpAny_of_seq (md:=.any) (Q':=Q) (l.drop n) n listed a' w' (fun j=>by simp [List.getElem?_drop]) (by rw [hdl]; exact hL.1) (hL.2 w' (Later.refl _))
    rwa [hdl] at this) _ _ _ _ (eQ (fun _ _ _ _ hw hq=>⟨hq.1,fun w2 h2=>hq.2 w2 (hw.trans h2)⟩) _ _ _ _ _ (Later.drew w) H)
  rw [hlen,show n+(l.toArray.size - n)=l.toArray.size by omega] at this
  exact this
end
end Go.PK

namespace Go.PK
open Go Go.RowKit
def ev (l:List (Nat×Value)):Operand→Option Value
  | .tmp t=>l.lookup t
  | .const v=>some v
  | .global g=>some (.pointer (some ⟨g,0,none⟩))
  | .func f=>some (.func (.func f) #[] #[])
def lw (l:List (Nat×Value)):List Operand→Option (List Value)
  | []=>some []
  | x::xs=>match ev l x,lw l xs with
    | some v,some vs=>some (v::vs)
    | _,_=>none
structure FH (n:Nat) (l:List (Nat×Value)) (a:Act):Prop where
  sz:a.tmps.size=n
  df:a.defers=[]
  at_:∀ s v,l.lookup s=some v→a.tmps[s]?=some v
theorem FH.eval {n:Nat} {l:List (Nat×Value)} {a:Act} (h:FH n l a) {x:Operand} {v:Value} (hx:ev l x=some v):a.eval x=v:=by
  cases x with
  | tmp t=>simp [Act.eval,h.at_ t v hx]
  | const u=>simpa [ev,Act.eval] using hx
  | global g=>simpa [ev,Act.eval] using hx
  | func f=>simpa [ev,Act.eval] using hx
theorem FH.evals {n:Nat} {l:List (Nat×Value)} {a:Act} (h:FH n l a):∀ {xs:List Operand} {vs:List Value},lw l xs=some vs→xs.map a.eval=vs
  | [],vs,hx=>by simp [lw] at hx; simp [hx]
  | x::xs,vs,hx=>by
    simp only [lw] at hx
    split at hx
    · rename_i v us hv hus
      cases hx
      simp [h.eval hv,h.evals hus]
    · cases hx
theorem FH.put {n d:Nat} {l:List (Nat×Value)} {a:Act} (h:FH n l a) (v:Value) (hd:d < n):FH n ((d,v)::l) (a.put (some d) v) where
  sz:=by simp [Act.put,h.sz]
  df:=h.df
  at_:=fun s u hu=>by
    simp only [List.lookup_cons] at hu
    by_cases hs:s=d
    · subst hs
      simp at hu
      subst hu
      simp [Act.put,h.sz,hd]
    · have:(s == d)=false:=by simpa using hs
      simp only [this] at hu
      have hne:d≠s:=fun e=>hs e.symm
      simp only [Act.put]
      rw [Array.getElem?_setIfInBounds_ne hne]
      exact h.at_ s u hu
def je (l' l:List (Nat×Value)):Prop:=∀ s v,l'.lookup s=some v→l.lookup s=some v
theorem je.nil {l:List (Nat×Value)}:je [] l:=fun s v h=>by simp at h
theorem je.cons {l l':List (Nat×Value)} {d:Nat} {v:Value} (h:l.lookup d=some v) (k:je l' l):je ((d,v)::l') l:=fun s u hu=>by
  simp only [List.lookup_cons] at hu
  by_cases hs:s=d
  · subst hs; simp at hu; subst hu; exact h
  · have:(s == d)=false:=by simpa using hs
    simp only [this] at hu
    exact k s u hu
theorem je.refl (l:List (Nat×Value)):je l l:=fun _ _ h=>h
theorem FH.sub {n:Nat} {l l':List (Nat×Value)} {a:Act} (h:FH n l a) (k:je l' l):FH n l' a:=⟨h.sz,h.df,fun s v hv=>h.at_ s v (k s v hv)⟩
abbrev av:=World×(Nat→Prop)
structure Mem (w:World) (own:List (Nat×Obj)) (ro:List av):Prop where
  own_at:∀ p∈own,w.heap[p.1]?=some p.2
  own_nd:(own.map (·.1)).Nodup
  ro_st:∀ s∈ro,w.os=s.1.os∧w.tape=s.1.tape∧w.output=s.1.output∧s.1.heap.size≤w.heap.size
  ro_at:∀ s∈ro,∀ k,s.2 k→k < s.1.heap.size→w.heap[k]?=s.1.heap[k]?
  apart:∀ p∈own,∀ s∈ro,s.2 p.1→s.1.heap.size≤p.1
theorem dS {w:World} {k:Nat} {o:Obj} (h:w.heap[k]?=some o):k < w.heap.size:=by
  rcases Nat.lt_or_ge k w.heap.size with h' | h'
  · exact h'
  · rw [Array.getElem?_eq_none h'] at h; cases h
section
variable {w w':World} {own:List (Nat×Obj)} {ro:List av}
theorem Mem.later (h:Mem w own ro) (hl:Later w w'):Mem w' own ro where
  own_at:=fun p hp=>(hl.block p.1 (dS (h.own_at p hp))).trans (h.own_at p hp)
  own_nd:=h.own_nd
  ro_st:=fun s hs=>by
    obtain ⟨h1,h2,h3,h4⟩:=h.ro_st s hs
    exact ⟨hl.os.trans h1,hl.tape.trans h2,hl.output.trans h3,Nat.le_trans h4 hl.size⟩
  ro_at:=fun s hs k hk hlt=>(hl.block k (Nat.lt_of_lt_of_le hlt (h.ro_st s hs).2.2.2)).trans (h.ro_at s hs k hk hlt)
  apart:=h.apart
theorem Mem.lt (h:Mem w own ro) {p:Nat×Obj} (hp:p∈own):p.1 < w.heap.size:=dS (h.own_at p hp)
theorem Mem.new (h:Mem w own ro) (o:Obj):Mem (w.alloc o) ((w.heap.size,o)::own) ro where
  own_at:=fun p hp=>by
    rcases List.mem_cons.1 hp with rfl | hp
    · show (w.heap.push o)[w.heap.size]?=some o
      simp
    · exact (Below.heap_alloc w o p.1 (h.lt hp)).trans (h.own_at p hp)
  own_nd:=by
    simp only [List.map_cons,List.nodup_cons]
    refine ⟨fun hm=>?_,h.own_nd⟩
    obtain ⟨p,hp,he⟩:=List.mem_map.1 hm
    have:=h.lt hp
    omega
  ro_st:=(h.later (Later.alloc w o)).ro_st
  ro_at:=(h.later (Later.alloc w o)).ro_at
  apart:=fun p hp s hs hd=>by
    rcases List.mem_cons.1 hp with rfl | hp
    · exact (h.ro_st s hs).2.2.2
    · exact h.apart p hp s hs hd
structure Turned (w w':World) (b:Nat) (o:Obj):Prop where
  os:w'.os=w.os
  tape:w'.tape=w.tape
  output:w'.output=w.output
  size:w'.heap.size=w.heap.size
  at_:w'.heap[b]?=some o
  other:∀ k,k≠b→w'.heap[k]?=w.heap[k]?
theorem Mem.turn {l1 l2:List (Nat×Obj)} {b:Nat} {o o':Obj} (h:Mem w (l1++(b,o)::l2) ro) (ht:Turned w w' b o'):Mem w' (l1++(b,o')::l2) ro:=by
  have hb:(b,o)∈l1++(b,o)::l2:=by simp
  have hnd:=h.own_nd
  simp only [List.map_append,List.map_cons] at hnd
  have hne:∀ p,p∈l1∨p∈l2→p.1≠b:=by
    intro p hp e
    rw [List.nodup_append] at hnd
    obtain ⟨_,h2,h3⟩:=hnd
    rcases hp with hp | hp
    · exact h3 p.1 (List.mem_map_of_mem hp) b (by simp) e
    · exact (List.nodup_cons.1 h2).1 (e▸List.mem_map_of_mem hp)
  refine ⟨fun p hp=>?_,by simpa using h.own_nd,fun s hs=>?_,fun s hs k hk hlt=>?_,fun p hp s hs hd=>?_⟩
  · simp only [List.mem_append,List.mem_cons] at hp
    rcases hp with hp | rfl | hp
    · exact (ht.other _ (hne p (.inl hp))).trans (h.own_at p (by simp [hp]))
    · exact ht.at_
    · exact (ht.other _ (hne p (.inr hp))).trans (h.own_at p (by simp [hp]))
  · obtain ⟨h1,h2,h3,h4⟩:=h.ro_st s hs
    exact ⟨ht.os.trans h1,ht.tape.trans h2,ht.output.trans h3,by rw [ht.size]; exact h4⟩
  · have:k≠b:=fun e=>by
      subst e
      have:=h.apart _ hb s hs hk
      simp only at this
      omega
    exact (ht.other k this).trans (h.ro_at s hs k hk hlt)
  · simp only [List.mem_append,List.mem_cons] at hp
    rcases hp with hp | rfl | hp
    · exact h.apart p (by simp [hp]) s hs hd
    · exact h.apart (b,o) hb s hs hd
    · exact h.apart p (by simp [hp]) s hs hd
def a7 (own:List (Nat×Obj)):Nat→Prop:=fun k=>∀ p∈own,p.1≠k
theorem Mem.snap (h:Mem w own ro):Mem w own ((w,a7 own)::ro) where
  own_at:=h.own_at
  own_nd:=h.own_nd
  ro_st:=fun s hs=>by
    rcases List.mem_cons.1 hs with rfl | hs
    · exact ⟨rfl,rfl,rfl,Nat.le_refl _⟩
    · exact h.ro_st s hs
  ro_at:=fun s hs k hk hlt=>by
    rcases List.mem_cons.1 hs with rfl | hs
    · rfl
    · exact h.ro_at s hs k hk hlt
  apart:=fun p hp s hs hd=>by
    rcases List.mem_cons.1 hs with rfl | hs
    · exact absurd rfl (hd p hp)
    · exact h.apart p hp s hs hd
theorem Mem.less (h:Mem w own ro) {own':List (Nat×Obj)} {ro':List av} (ho:own'.Sublist own) (hr:∀ s∈ro',s∈ro):Mem w own' ro' :=
  ⟨fun p hp=>h.own_at p (ho.subset hp),(ho.map _).nodup h.own_nd,fun s hs=>h.ro_st s (hr s hs),fun s hs=>h.ro_at s (hr s hs),fun p hp s hs=>h.apart p (ho.subset hp) s (hr s hs)⟩
theorem Mem.init (w:World):Mem w [] [(w,fun _=>True)] :=
  ⟨fun p hp=>by simp at hp,by simp,fun s hs=>by simp at hs; subst hs; exact ⟨rfl,rfl,rfl,Nat.le_refl _⟩,fun s hs k _ _=>by simp at hs; subst hs; rfl,fun p hp=>by simp at hp⟩
theorem Mem.base (h:Mem w own ro) {w0:World} (hs:(w0,fun _=>True)∈ro):Later w0 w:=by
  obtain ⟨h1,h2,h3,h4⟩:=h.ro_st _ hs
  exact ⟨h1,h2,h3,h4,fun k hk=>h.ro_at _ hs k trivial hk⟩
theorem Mem.cell_ro (h:Mem w own ro) {s:av} (hs:s∈ro) {p:Addr} (hd:s.2 p.block) (hlt:p.block < s.1.heap.size):w.cell? p=s.1.cell? p :=
  World.cell?_of_block (w:=s.1) (h.ro_at s hs p.block hd hlt)
theorem eu {w:World} {p:Addr} {v:Value} (h:w.cell? p=some v):p.block < w.heap.size:=by
  unfold World.cell? at h
  split at h
  · exact dS ‹_›
  · cases h
theorem Mem.cell_own (h:Mem w own ro) {b:Nat} {cs:Array Value} {t:TypeId} {fz:Nat×Nat} (hb:(b,Obj.cells cs t fz)∈own) (i:Nat):w.cell? ⟨b,i,none⟩=cs[i]? :=
  cell_of_row w b i cs t fz (h.own_at _ hb)
end
section
variable {P:Program} {n:Nat} {l:List (Nat×Value)} {own:List (Nat×Obj)} {ro:List av}
def W (P:Program) (c:Code) (Q:Exit→Act→World→Prop) (n:Nat) (l:List (Nat×Value)) (own:List (Nat×Obj)) (ro:List av):Prop :=
  ∀ a w,FH n l a→Mem w own ro→c.wp P Q a w
def S (K:Act→World→Prop) (n:Nat) (l:List (Nat×Value)) (own:List (Nat×Obj)) (ro:List av):Prop:=∀ a w,FH n l a→Mem w own ro→K a w
def hJ (P:Program) (ops:Array Oper) (Q:Exit→Act→World→Prop) (K:Act→World→Prop):List (Option Bool×Nat)→Act→World→Prop
  | [],a,w=>∀ w',Later w w'→K a w'
  | (k,i)::rest,a,w=>match ops[i]? with
    | none=>False
    | some o=>match k with
      | some b=>if Region.wanted o (yielded ops a.tmps) then
          (match b with
           | true=>flt P o a w (fun a'=>hJ P ops Q K rest a' w)
           | false=>grw P o a w (hJ P ops Q K rest))
          else hJ P ops Q K rest (a.put o.dst undef) w
      | none=>∀ w',Later w w'→if Region.wanted o (yielded ops a.tmps) then o.wp P a w' (hJ P ops Q K rest) Q else hJ P ops Q K rest (a.put o.dst undef) w'
def WX (P:Program) (ops:Array Oper) (Q:Exit→Act→World→Prop) (K:Act→World→Prop) (plan:List (Option Bool×Nat)) (n:Nat) (l:List (Nat×Value)) (own:List (Nat×Obj)) (ro:List av):Prop :=
  ∀ a w,FH n l a→Mem w own ro→hJ P ops Q K plan a w
theorem j7 {ops:Array Oper} {Q:Exit→Act→World→Prop} {K:Act→World→Prop} {rest:List Nat} {a:Act} {w w':World} (hl:Later w w') (h:hJ P ops Q K (rest.map fun i=>(none,i)) a w) :
    hJ P ops Q K (rest.map fun i=>(none,i)) a w':=by
  cases rest with
  | nil=>exact fun w2 h2=>h w2 (hl.trans h2)
  | cons i rest =>
    simp only [List.map_cons,hJ] at h ⊢
    split <;> rename_i ho <;> simp only [ho] at h
    exact fun w2 h2=>h w2 (hl.trans h2)
theorem dW {Q:Exit→Act→World→Prop} {lops:List Oper}:∀ (r:List Oper) (k:Nat) (a:Act) (w:World),lops.drop k=r →
    hJ P lops.toArray Q (fun a w=>Q .normal a w) ((List.range' k (lops.length - k)).map fun i=>(none,i)) a w→wpList P lops.toArray Q r a w
  | [],k,a,w,hr,h=>by
    have hk:lops.length≤k:=by simpa using hr
    rw [show lops.length - k=0 by omega] at h
    exact h w (Later.refl _)
  | o::r,k,a,w,hr,h=>by
    have hk:k < lops.length:=by
      rcases Nat.lt_or_ge k lops.length with h' | h'
      · exact h'
      · rw [List.drop_eq_nil_of_le h'] at hr; cases hr
    have hd:=List.drop_eq_getElem_cons hk
    rw [hr] at hd
    injection hd with h1 h2
    rw [show lops.length - k=(lops.length - (k+1))+1 by omega,List.range'_succ,List.map_cons] at h
    simp only [hJ,List.getElem?_toArray,List.getElem?_eq_getElem hk,← h1] at h
    have h3:=h w (Later.refl _)
    refine wpList_step fun K hK=>?_
    split <;> rename_i hw
    · rw [if_pos hw] at h3
      exact Oper.wp_mono (fun a' w' hk'=>hK _ _ (dW r (k+1) a' w' h2.symm hk')) h3
    · rw [if_neg hw] at h3
      exact hK _ _ (dW r (k+1) _ w h2.symm h3)
def dX (m s:Nat):List (Option Bool×Nat):=(List.range' m (s - m)).map fun i=>(none,i)
theorem jf {lops:List Oper} {Q:Exit→Act→World→Prop} (m:Nat):∀ (plan:List (Bool×Nat)) (a:Act) (w:World),
    hJ P lops.toArray Q (fun a w=>Q .normal a w) ((plan.map fun p=>(some p.1,p.2))++dX m lops.length) a w →
    kD P lops.toArray (fun a' w'=>∀ w'',Later w' w''→wpList P lops.toArray Q (lops.drop m) a' w'') plan a w
  | [],a,w,h=>fun w2 h2=>dW _ m a w2 rfl (j7 h2 h)
  | (b,i)::plan,a,w,h=>by
    simp only [List.map_cons,List.cons_append,hJ] at h
    simp only [kD]
    split <;> rename_i ho <;> simp only [ho] at h
    split <;> rename_i hw
    · rw [if_pos hw] at h
      cases b with
      | true=>obtain ⟨v,h1,h2⟩:=h; exact ⟨v,h1,jf m plan _ w h2⟩
      | false=>exact fun w2 h2=>Oper.wp_mono (fun a' w' hk=>⟨hk.1,jf m plan a' w' hk.2⟩) (h w2 h2)
    · rw [if_neg hw] at h
      exact jf m plan _ w h
theorem ew {id:Nat} {Q:Exit→Act→World→Prop} {lops:List Oper} (m:Nat) (plan:List (Bool×Nat)) (hm:P.follows .mixedOrders=true) (hB:An .any lops.toArray m plan=true)
    (h:WX P lops.toArray Q (fun a w=>Q .normal a w) ((plan.map fun p=>(some p.1,p.2))++dX m lops.length) n l own ro):W P (.region id lops.toArray true) Q n l own ro :=
  fun a w ha hw=>pL m plan hm hB (jf m plan a w (h a w ha hw))
theorem rg_text {id:Nat} {Q:Exit→Act→World→Prop} {lops:List Oper}
    (h:WX P lops.toArray Q (fun a w=>Q .normal a w) (dX 0 lops.length) n l own ro):W P (.region id lops.toArray false) Q n l own ro :=
  fun a w ha hw=>wp_region_lit (dW lops 0 a w (by simp) (h a w ha hw))
section
variable {Q:Exit→Act→World→Prop}
theorem w_seq {x y:Code} (h:W P x (Exit.then (y.wp P Q) Q) n l own ro):W P (.seq x y) Q n l own ro:=fun a w ha hw=>wp_seq (h a w ha hw)
theorem nn {id:Nat} {c:Code} (h:W P c (Exit.inBlock id Q) n l own ro):W P (.block id c) Q n l own ro:=fun a w ha hw=>wp_block (h a w ha hw)
theorem eA (h:S (Q .normal) n l own ro):W P .skip Q n l own ro:=fun a w ha hw=>wp_skip (h a w ha hw)
theorem w_exit {id:Nat} (h:S (Q (.exit id)) n l own ro):W P (.exit id) Q n l own ro:=fun a w ha hw=>wp_exit (h a w ha hw)
theorem w_ret (h:S (Q .ret) n l own ro):W P .ret Q n l own ro:=fun a w ha hw=>wp_ret (h a w ha hw)
theorem rq {c:Operand} {x y:Code} {t:Bool} (hc:ev l c=some (.bool t)) (ht:t=true→W P x Q n l own ro) (hf:t=false→W P y Q n l own ro):W P (.cond c x y) Q n l own ro :=
  fun a w ha hw=>wp_cond_split (ha.eval hc) (fun h=>ht h a w ha hw) (fun h=>hf h a w ha hw)
theorem aO {c:Code} {σ:Type} (I:σ→Prop) (L:σ→List (Nat×Value)) (O:σ→List (Nat×Obj)) (R:σ→List av) (μ:σ→Nat) (x0:σ) (hI:I x0)
    (h0:∀ a w,FH n l a→Mem w own ro→FH n (L x0) a∧Mem w (O x0) (R x0))
    (round:∀ x,I x→W P c (Exit.then (fun a w=>∃ x',I x'∧μ x' < μ x∧FH n (L x') a∧Mem w (O x') (R x')) Q) n (L x) (O x) (R x)):W P (.loop c) Q n l own ro:=by
  intro a w ha hw b k cs
  have key:∀ m x,I x→μ x=m→∀ a w,FH n (L x) a→Mem w (O x) (R x) →
      ∃ e a' w',Q e a' w'∧Arrives P (lone (b.at a (.code c::.inLoop c::k)) cs w) b k cs e a' w':=by
    intro m
    induction m using Nat.strongRecOn with
    | _ m ih =>
      intro x hIx hx a w ha hw
      obtain ⟨e,a₁,w₁,hq,harr⟩:=round x hIx a w ha hw b (.inLoop c::k) cs
      cases e with
      | normal =>
        obtain ⟨x',hI',hlt,ha',hw'⟩:=hq
        obtain ⟨e₂,a₂,w₂,hq₂,harr₂⟩:=ih (μ x') (hx▸hlt) x' hI' rfl a₁ w₁ ha' hw'
        exact ⟨e₂,a₂,w₂,hq₂,.of_steps (Steps.trans harr (.one step_inLoop)) harr₂⟩
      | exit id=>exact ⟨_,a₁,w₁,hq,.pass (x:=.inLoop c) rfl (fun _ _=>.inl (by simp)) harr⟩
      | goto l=>exact ⟨_,a₁,w₁,hq,.pass (x:=.inLoop c) rfl (fun _ _=>.inl (by simp)) harr⟩
      | ret=>exact ⟨_,a₁,w₁,hq,.pass (x:=.inLoop c) rfl (fun _ _=>.inl (by simp)) harr⟩
      | panic ch=>exact ⟨_,a₁,w₁,hq,.pass (x:=.inLoop c) rfl (fun _ _=>.inl (by simp)) harr⟩
      | outgrown=>exact ⟨_,a₁,w₁,hq,.pass (x:=.inLoop c) rfl (fun _ _=>.inl (by simp)) harr⟩
  obtain ⟨h1,h2⟩:=h0 a w ha hw
  obtain ⟨e,a',w',hq,harr⟩:=key _ x0 hI rfl a w h1 h2
  exact ⟨e,a',w',hq,.of_steps (.one step_loop) harr⟩
end
end
end Go.PK

namespace Go.PK
open Go Go.RowKit
section
variable {P:Program} {n:Nat} {l:List (Nat×Value)} {own:List (Nat×Obj)} {ro:List av} {lops:List Oper} {Q:Exit→Act→World→Prop} {K:Act→World→Prop}
  {rest:List (Option Bool×Nat)} {k:Option Bool} {i d:Nat} {op:Op} {ty:TypeId} {pos:String} {af:Array Edge}
def cx (P:Program) (n:Nat) (l:List (Nat×Value)) (own:List (Nat×Obj)) (ro:List av) (op:Op) (ty:TypeId) (v:Value):Prop :=
  ∀ a w (o:Oper),FH n l a→Mem w own ro→o.op=op→o.type=ty→(execOp a.eval o).run P w=.ok (.value v) w
theorem x_end (h:S K n l own ro):WX P lops.toArray Q K [] n l own ro:=fun a w ha hw w' hl=>h a w' ha (hw.later hl)
def Go_ (lops:List Oper) (n:Nat) (l:List (Nat×Value)) (o:Oper):Prop:=∀ a,FH n l a→Region.wanted o (yielded lops.toArray a.tmps)=true
def No_ (lops:List Oper) (n:Nat) (l:List (Nat×Value)) (o:Oper):Prop:=∀ a,FH n l a→Region.wanted o (yielded lops.toArray a.tmps)=false
theorem bU {o:Oper} (h:o.guard=none):Go_ lops n l o:=fun _ _=>by simp [Region.wanted,h]
theorem mR {o:Oper} {a:Act} {j dj:Nat} {want b:Bool} (hg:o.guard=some (j,want)) (hj:(lops[j]?).bind (·.dst)=some dj) (ha:FH n l a) (hb:l.lookup dj=some (.bool b)) :
    Region.wanted o (yielded lops.toArray a.tmps)=(b == want):=by
  simp only [Region.wanted,hg,yielded,List.getElem?_toArray,hj,Option.bind_some,ha.at_ _ _ hb]
  cases b <;> cases want <;> rfl
theorem ig {o:Oper} {j dj:Nat} {want:Bool} (hg:o.guard=some (j,want)) (hj:(lops[j]?).bind (·.dst)=some dj) (hb:l.lookup dj=some (.bool want)):Go_ lops n l o :=
  fun a ha=>by rw [mR hg hj ha hb]; simp
theorem ww {o:Oper} {j dj:Nat} {want b:Bool} (hg:o.guard=some (j,want)) (hj:(lops[j]?).bind (·.dst)=some dj) (hb:l.lookup dj=some (.bool b)) (hne:(b == want)=false):No_ lops n l o :=
  fun a ha=>by rw [mR hg hj ha hb,hne]
theorem wy {o:Oper} (ho:lops[i]?=some o) (hgo:Go_ lops n l o) (hd0:o.dst=some d) (hk:k.getD true=true) (hd:decide (d < n)=true) {v:Value} (hv:cx P n l own ro o.op o.type v)
    (h:WX P lops.toArray Q K rest n ((d,v)::l) own ro):WX P lops.toArray Q K ((k,i)::rest) n l own ro:=by
  intro a w ha hw
  have hd':d < n:=of_decide_eq_true hd
  have hw1:=hgo a ha
  simp only [hJ,List.getElem?_toArray,ho]
  cases k with
  | none =>
    intro w' hl
    rw [if_pos hw1]
    unfold Oper.wp
    rw [hv a w' _ ha (hw.later hl) rfl rfl]
    show hJ P lops.toArray Q K rest (a.put o.dst v) w'
    rw [hd0]
    exact h _ w' (ha.put v hd') (hw.later hl)
  | some b =>
    simp at hk
    subst hk
    dsimp only
    rw [if_pos hw1]
    refine ⟨v,fun w' hl=>?_,by rw [hd0]; exact h _ w (ha.put v hd') hw⟩
    unfold fZ
    rw [hv a w' _ ha (hw.later hl) rfl rfl]
    exact ⟨rfl,rfl⟩
theorem zX {o:Oper} (ho:lops[i]?=some o) (hno:No_ lops n l o) (hd0:o.dst=some d) (hd:decide (d < n)=true)
    (h:WX P lops.toArray Q K rest n ((d,undef)::l) own ro):WX P lops.toArray Q K ((k,i)::rest) n l own ro:=by
  intro a w ha hw
  have hd':d < n:=of_decide_eq_true hd
  have hw1:¬ Region.wanted o (yielded lops.toArray a.tmps)=true:=by rw [hno a ha]; simp
  simp only [hJ,List.getElem?_toArray,ho]
  cases k with
  | none=>intro w' hl; rw [if_neg hw1,hd0]; exact h _ w' (ha.put undef hd') (hw.later hl)
  | some b=>dsimp only; rw [if_neg hw1,hd0]; exact h _ w (ha.put undef hd') hw
theorem eU (ho:lops[i]?=some ⟨some d,op,ty,pos,af,none⟩) (hk:k.getD true=true) (hd:decide (d < n)=true) {v:Value} (hv:cx P n l own ro op ty v)
    (h:WX P lops.toArray Q K rest n ((d,v)::l) own ro):WX P lops.toArray Q K ((k,i)::rest) n l own ro :=
  wy ho (bU rfl) rfl hk hd hv h
theorem eB (ho:lops[i]?=some ⟨some d,op,ty,pos,af,none⟩) (hk:k.getD true=true) (hd:decide (d < n)=true) {b:Bool} (hv:cx P n l own ro op ty (.bool b))
    (h:∀ c,c=b→WX P lops.toArray Q K rest n ((d,.bool c)::l) own ro):WX P lops.toArray Q K ((k,i)::rest) n l own ro :=
  eU ho hk hd hv (h b rfl)
theorem x_no {j dj:Nat} {want b:Bool} (ho:lops[i]?=some ⟨some d,op,ty,pos,af,some (j,want)⟩) (hj:(lops[j]?).bind (·.dst)=some dj) (hb:l.lookup dj=some (.bool b)) (hne:(b == want)=false) (hd:decide (d < n)=true)
    (h:WX P lops.toArray Q K rest n ((d,undef)::l) own ro):WX P lops.toArray Q K ((k,i)::rest) n l own ro :=
  zX ho (ww rfl hj hb hne) rfl hd h
def kE:List (Bool×Bool)→Value→Value
  | [],v=>v
  | (b,w)::gs,v=>if b=w then kE gs v else undef
def kz:List (Bool×Bool)→Prop
  | []=>True
  | (b,w)::gs=>b=w∧kz gs
theorem gvl_nil (v:Value):kE [] v=v:=rfl
theorem gvl_t (gs:List (Bool×Bool)) (v:Value):kE ((true,true)::gs) v=kE gs v:=rfl
theorem gvl_f (gs:List (Bool×Bool)) (v:Value):kE ((false,false)::gs) v=kE gs v:=rfl
theorem ly:∀ {gs:List (Bool×Bool)} {v:Value},kz gs→kE gs v=v
  | [],_,_=>rfl
  | (b,w)::gs,v,h=>by simp only [kE,h.1,if_true]; exact ly h.2
theorem ru:∀ {gs:List (Bool×Bool)} {v:Value},¬ kz gs→kE gs v=undef
  | [],_,h=>absurd trivial h
  | (b,w)::gs,v,h=>by
    simp only [kE]
    split
    · rename_i hb; exact ru fun hg=>h ⟨hb,hg⟩
    · rfl
theorem iE:∀ {gs:List (Bool×Bool)} {b w:Bool},kz (gs++[(b,w)])↔kz gs∧b=w
  | [],b,w=>by simp [kz]
  | (c,x)::gs,b,w=>by simp only [List.cons_append,kz,iE,and_assoc]
theorem go_gs {o:Oper} {j dj:Nat} {want b:Bool} {gs:List (Bool×Bool)} (hg:o.guard=some (j,want)) (hj:(lops[j]?).bind (·.dst)=some dj) (hb:l.lookup dj=some (kE gs (.bool b))) (h:kz gs) (hw:b=want):Go_ lops n l o :=
  fun a ha=>by rw [ly h] at hb; subst hw; exact ig hg hj hb a ha
theorem no_gs {o:Oper} {j dj:Nat} {want b:Bool} {gs:List (Bool×Bool)} (hg:o.guard=some (j,want)) (hj:(lops[j]?).bind (·.dst)=some dj) (hb:l.lookup dj=some (kE gs (.bool b))) (h:¬ (kz gs∧b=want)):No_ lops n l o:=by
  by_cases hgs:kz gs
  · rw [ly hgs] at hb
    exact ww hg hj hb (by simpa using fun e=>h ⟨hgs,e⟩)
  · rw [ru hgs] at hb
    intro a ha
    simp only [Region.wanted,hg,yielded,List.getElem?_toArray,hj,Option.bind_some,ha.at_ _ _ hb,undef]
    cases want <;> rfl
theorem fV {j dj:Nat} {want b:Bool} (gs:List (Bool×Bool)) (ho:lops[i]?=some ⟨some d,op,ty,pos,af,some (j,want)⟩) (hj:(lops[j]?).bind (·.dst)=some dj) (hb:l.lookup dj=some (kE gs (.bool b))) (hk:k.getD true=true) (hd:decide (d < n)=true) {v:Value}
    (hv:kz (gs++[(b,want)])→cx P n l own ro op ty v)
    (h:WX P lops.toArray Q K rest n ((d,kE (gs++[(b,want)]) v)::l) own ro):WX P lops.toArray Q K ((k,i)::rest) n l own ro:=by
  by_cases hg:kz (gs++[(b,want)])
  · obtain ⟨h1,h2⟩:=iE.1 hg
    refine wy ho (go_gs rfl hj hb h1 h2) rfl hk hd (hv hg) ?_
    rwa [ly hg] at h
  · refine zX ho (no_gs rfl hj hb fun h=>hg (iE.2 h)) rfl hd ?_
    rwa [ru hg] at h
theorem fp {j dj:Nat} {want b c:Bool} (gs:List (Bool×Bool)) (ho:lops[i]?=some ⟨some d,op,ty,pos,af,some (j,want)⟩) (hj:(lops[j]?).bind (·.dst)=some dj) (hb:l.lookup dj=some (kE gs (.bool b))) (hk:k.getD true=true) (hd:decide (d < n)=true)
    (hv:kz (gs++[(b,want)])→cx P n l own ro op ty (.bool c))
    (h:∀ c',c'=c→WX P lops.toArray Q K rest n ((d,kE (gs++[(b,want)]) (.bool c'))::l) own ro):WX P lops.toArray Q K ((k,i)::rest) n l own ro :=
  fV gs ho hj hb hk hd hv (h c rfl)
theorem yp {f:FuncId} {fn:Func} (hf:P.funcs[f]?=some fn) (hbody:(!(fn.name == "runtime.NumGoroutine") && fn.body.isSome)=true) (args:Array Value) (w:World) :
    (callFunc f args).run P w=.ok (.enter f args) w:=by
  simp only [Bool.and_eq_true,Bool.not_eq_true'] at hbody
  obtain ⟨h1,h2⟩:=hbody
  have h1':¬ fn.name= "runtime.NumGoroutine":=by simpa using h1
  have h3:¬ fn.body=none:=by intro h; simp [h] at h2
  simp [callFunc,hf,h1',h3]
theorem dO {a:Act} {o:Oper} {w:World} {f:FuncId} {fn:Func} {xs:Array Operand} {tys:Array TypeId} {c:Operand} {vs:List Value} {cap:Array Value} {fst:Array Value}
    (ho:o.op=.call ⟨.value c,xs,tys⟩) (ha:FH n l a) (hcal:ev l c=some (.func (.func f) fst cap)) (hf:P.funcs[f]?=some fn) (hbody:(!(fn.name == "runtime.NumGoroutine") && fn.body.isSome)=true) (hx:lw l xs.toList=some vs) :
    (execOp a.eval o).run P w=.ok (.enter f (fst++vs.toArray++cap)) w:=by
  have hargs:xs.map a.eval=vs.toArray:=by
    have:=ha.evals hx
    rw [← this,← Array.toList_map]
  simp [execOp,ho,resolve,hargs,ha.eval hcal,Deferred.ofValue,invoke,yp hf hbody,Array.append_assoc]
theorem gd {o:Oper} {f:FuncId} {fn:Func} {xs:Array Operand} {tys:Array TypeId} {c:Operand} {vs:List Value} {fst cap:Array Value} (ho:lops[i]?=some o) (hgo:Go_ lops n l o) (hop:o.op=.call ⟨.value c,xs,tys⟩) (hd0:o.dst=some d) (hk:k.getD true=true) (hd:decide (d < n)=true)
    (hcal:ev l c=some (.func (.func f) fst cap)) (hf:P.funcs[f]?=some fn) (hbody:(!(fn.name == "runtime.NumGoroutine") && fn.body.isSome)=true) (hx:lw l xs.toList=some vs) {v:Value}
    (hc:∀ w,Mem w own ro→Calls P f (fst++vs.toArray++cap) w fun e w'=>e=.returned v∧Later w w')
    (h:WX P lops.toArray Q K rest n ((d,v)::l) own ro):WX P lops.toArray Q K ((k,i)::rest) n l own ro:=by
  intro a w ha hw
  have hd':d < n:=of_decide_eq_true hd
  have hw1:=hgo a ha
  simp only [hJ,List.getElem?_toArray,ho]
  cases k with
  | none =>
    intro w' hl
    rw [if_pos hw1]
    unfold Oper.wp
    rw [dO hop ha hcal hf hbody hx]
    refine Calls.mono (hc w' (hw.later hl)) fun e w2 he=>?_
    obtain ⟨rfl,hl2⟩:=he
    show hJ P lops.toArray Q K rest (a.put o.dst v) w2
    rw [hd0]
    exact h _ w2 (ha.put v hd') ((hw.later hl).later hl2)
  | some b =>
    simp at hk
    subst hk
    dsimp only
    rw [if_pos hw1]
    refine ⟨v,fun w' hl=>?_,by rw [hd0]; exact h _ w (ha.put v hd') hw⟩
    unfold fZ
    rw [dO hop ha hcal hf hbody hx]
    exact ⟨rfl,hc w' (hw.later hl)⟩
theorem np {f:FuncId} {fn:Func} {xs:Array Operand} {tys:Array TypeId} {vs:List Value} (ho:lops[i]?=some ⟨some d,.call ⟨.value (.func f),xs,tys⟩,ty,pos,af,none⟩) (hk:k.getD true=true) (hd:decide (d < n)=true)
    (hf:P.funcs[f]?=some fn) (hbody:(!(fn.name == "runtime.NumGoroutine") && fn.body.isSome)=true) (hx:lw l xs.toList=some vs) {v:Value}
    (hc:∀ w,Mem w own ro→Calls P f vs.toArray w fun e w'=>e=.returned v∧Later w w')
    (h:WX P lops.toArray Q K rest n ((d,v)::l) own ro):WX P lops.toArray Q K ((k,i)::rest) n l own ro :=
  gd (fst:=#[]) (cap:=#[]) ho (bU rfl) rfl rfl hk hd rfl hf hbody hx (by simpa using hc) h
theorem AC {f:FuncId} {fn:Func} {xs:Array Operand} {tys:Array TypeId} {vs:List Value} (ho:lops[i]?=some ⟨some d,.call ⟨.value (.func f),xs,tys⟩,ty,pos,af,none⟩) (hk:k.getD true=true) (hd:decide (d < n)=true)
    (hf:P.funcs[f]?=some fn) (hbody:(!(fn.name == "runtime.NumGoroutine") && fn.body.isSome)=true) (hx:lw l xs.toList=some vs) {b:Bool}
    (hc:∀ w,Mem w own ro→Calls P f vs.toArray w fun e w'=>e=.returned (.bool b)∧Later w w')
    (h:∀ c,c=b→WX P lops.toArray Q K rest n ((d,.bool c)::l) own ro):WX P lops.toArray Q K ((k,i)::rest) n l own ro :=
  np ho hk hd hf hbody hx hc (h b rfl)
theorem mc {j dj:Nat} {want b:Bool} (gs:List (Bool×Bool)) {f:FuncId} {fn:Func} {xs:Array Operand} {tys:Array TypeId} (ho:lops[i]?=some ⟨some d,.call ⟨.value (.func f),xs,tys⟩,ty,pos,af,some (j,want)⟩) (hj:(lops[j]?).bind (·.dst)=some dj) (hb:l.lookup dj=some (kE gs (.bool b))) (hk:k.getD true=true) (hd:decide (d < n)=true)
    (hf:P.funcs[f]?=some fn) (hbody:(!(fn.name == "runtime.NumGoroutine") && fn.body.isSome)=true) {v:Value}
    (hc:kz (gs++[(b,want)])→∃ vs,lw l xs.toList=some vs∧∀ w,Mem w own ro→Calls P f vs.toArray w fun e w'=>e=.returned v∧Later w w')
    (h:WX P lops.toArray Q K rest n ((d,kE (gs++[(b,want)]) v)::l) own ro):WX P lops.toArray Q K ((k,i)::rest) n l own ro:=by
  by_cases hg:kz (gs++[(b,want)])
  · obtain ⟨h1,h2⟩:=iE.1 hg
    obtain ⟨vs,hx,hc⟩:=hc hg
    refine gd (fst:=#[]) (cap:=#[]) ho (go_gs rfl hj hb h1 h2) rfl rfl hk hd rfl hf hbody hx (by simpa using hc) ?_
    rwa [ly hg] at h
  · refine zX ho (no_gs rfl hj hb fun h=>hg (iE.2 h)) rfl hd ?_
    rwa [ru hg] at h
theorem cQ {j dj:Nat} {want b:Bool} (gs:List (Bool×Bool)) {f:FuncId} {fn:Func} {xs:Array Operand} {tys:Array TypeId} (ho:lops[i]?=some ⟨some d,.call ⟨.value (.func f),xs,tys⟩,ty,pos,af,some (j,want)⟩) (hj:(lops[j]?).bind (·.dst)=some dj) (hb:l.lookup dj=some (kE gs (.bool b))) (hk:k.getD true=true) (hd:decide (d < n)=true)
    (hf:P.funcs[f]?=some fn) (hbody:(!(fn.name == "runtime.NumGoroutine") && fn.body.isSome)=true) {c:Bool}
    (hc:kz (gs++[(b,want)])→∃ vs,lw l xs.toList=some vs∧∀ w,Mem w own ro→Calls P f vs.toArray w fun e w'=>e=.returned (.bool c)∧Later w w')
    (h:∀ c',c'=c→WX P lops.toArray Q K rest n ((d,kE (gs++[(b,want)]) (.bool c'))::l) own ro):WX P lops.toArray Q K ((k,i)::rest) n l own ro :=
  mc gs ho hj hb hk hd hf hbody hc (h c rfl)
theorem jI {o:Oper} {f:FuncId} {fn:Func} {xs:Array Operand} {tys:Array TypeId} {c:Operand} {vs:List Value} {fst cap:Array Value} (ho:lops[i]?=some o) (hgo:Go_ lops n l o) (hop:o.op=.call ⟨.value c,xs,tys⟩) (hd0:o.dst=some d) (hk:(k == some true)=false) (hd:decide (d < n)=true)
    (hcal:ev l c=some (.func (.func f) fst cap)) (hf:P.funcs[f]?=some fn) (hbody:(!(fn.name == "runtime.NumGoroutine") && fn.body.isSome)=true) (hx:lw l xs.toList=some vs) {R:Value→World→World→Prop}
    (hc:∀ w,Mem w own ro→Calls P f (fst++vs.toArray++cap) w fun e w'=>∃ v,e=.returned v∧Later w w'∧R v w w')
    (h:∀ v w1 w2,Mem w1 own ro→Later w1 w2→R v w1 w2→WX P lops.toArray Q K rest n ((d,v)::l) own ((w2,a7 own)::ro)):WX P lops.toArray Q K ((k,i)::rest) n l own ro:=by
  intro a w ha hw
  have hd':d < n:=of_decide_eq_true hd
  have hw1:=hgo a ha
  simp only [hJ,List.getElem?_toArray,ho]
  have key:∀ w',Later w w'→Calls P f (fst++vs.toArray++cap) w' fun e w''=>∃ v,e=.returned v∧Later w' w''∧hJ P lops.toArray Q K rest (a.put o.dst v) w'':=fun w' hl =>
    Calls.mono (hc w' (hw.later hl)) fun e w2 ⟨v,he,hl2,hr⟩=>⟨v,he,hl2,by
      rw [hd0]
      exact h v w' w2 (hw.later hl) hl2 hr _ w2 (ha.put v hd') ((hw.later hl).later hl2).snap⟩
  cases k with
  | none =>
    intro w' hl
    rw [if_pos hw1]
    unfold Oper.wp
    rw [dO hop ha hcal hf hbody hx]
    refine Calls.mono (key w' hl) fun e w2 he=>?_
    obtain ⟨v,rfl,hl2,hx2⟩:=he
    exact hx2
  | some b =>
    have:b=false:=by cases b <;> simp_all
    subst this
    dsimp only
    rw [if_pos hw1]
    intro w' hl
    unfold Oper.wp
    rw [dO hop ha hcal hf hbody hx]
    refine Calls.mono (key w' hl) fun e w2 he=>?_
    obtain ⟨v,rfl,hl2,hx2⟩:=he
    exact ⟨hl2,hx2⟩
theorem x_call {f:FuncId} {fn:Func} {xs:Array Operand} {tys:Array TypeId} {vs:List Value} (ho:lops[i]?=some ⟨some d,.call ⟨.value (.func f),xs,tys⟩,ty,pos,af,none⟩) (hk:(k == some true)=false) (hd:decide (d < n)=true)
    (hf:P.funcs[f]?=some fn) (hbody:(!(fn.name == "runtime.NumGoroutine") && fn.body.isSome)=true) (hx:lw l xs.toList=some vs) {R:Value→World→World→Prop}
    (hc:∀ w,Mem w own ro→Calls P f vs.toArray w fun e w'=>∃ v,e=.returned v∧Later w w'∧R v w w')
    (h:∀ v w1 w2,Mem w1 own ro→Later w1 w2→R v w1 w2→WX P lops.toArray Q K rest n ((d,v)::l) own ((w2,a7 own)::ro)):WX P lops.toArray Q K ((k,i)::rest) n l own ro :=
  jI (fst:=#[]) (cap:=#[]) ho (bU rfl) rfl rfl hk hd rfl hf hbody hx (by simpa using hc) h
theorem nL {f:FuncId} {fn:Func} {xs:Array Operand} {tys:Array TypeId} {c:Operand} {vs:List Value} {cap:Array Value} (ho:lops[i]?=some ⟨some d,.call ⟨.value c,xs,tys⟩,ty,pos,af,none⟩) (hk:k.getD true=true) (hd:decide (d < n)=true)
    (hcal:ev l c=some (.func (.func f) #[] cap)) (hf:P.funcs[f]?=some fn) (hbody:(!(fn.name == "runtime.NumGoroutine") && fn.body.isSome)=true) (hx:lw l xs.toList=some vs) {v:Value}
    (hc:∀ w,Mem w own ro→Calls P f (vs.toArray++cap) w fun e w'=>e=.returned v∧Later w w')
    (h:WX P lops.toArray Q K rest n ((d,v)::l) own ro):WX P lops.toArray Q K ((k,i)::rest) n l own ro :=
  gd (fst:=#[]) ho (bU rfl) rfl rfl hk hd hcal hf hbody hx (by simpa using hc) h
theorem x_clb {f:FuncId} {fn:Func} {xs:Array Operand} {tys:Array TypeId} {c:Operand} {vs:List Value} {cap:Array Value} (ho:lops[i]?=some ⟨some d,.call ⟨.value c,xs,tys⟩,ty,pos,af,none⟩) (hk:k.getD true=true) (hd:decide (d < n)=true)
    (hcal:ev l c=some (.func (.func f) #[] cap)) (hf:P.funcs[f]?=some fn) (hbody:(!(fn.name == "runtime.NumGoroutine") && fn.body.isSome)=true) (hx:lw l xs.toList=some vs) {b:Bool}
    (hc:∀ w,Mem w own ro→Calls P f (vs.toArray++cap) w fun e w'=>e=.returned (.bool b)∧Later w w')
    (h:∀ c,c=b→WX P lops.toArray Q K rest n ((d,.bool c)::l) own ro):WX P lops.toArray Q K ((k,i)::rest) n l own ro :=
  nL ho hk hd hcal hf hbody hx hc (h b rfl)
theorem eC {x:Operand} {v:Value} (hx:ev l x=some v):cx P n l own ro (.move x) ty v:=by
  intro a w o ha _ ho _
  simp [execOp,ho,ha.eval hx]
theorem gx {x:Operand} {v:Value} (hx:ev l x=some v):cx P n l own ro (.assign x) ty v:=by
  intro a w o ha _ ho _
  simp [execOp,ho,ha.eval hx]
theorem jJ {c x y:Operand} {b:Bool} {v:Value} (hc:ev l c=some (.bool b)) (hv:(if b then ev l x else ev l y)=some v):cx P n l own ro (.pick c x y) ty v:=by
  intro a w o ha _ ho _
  cases b
  · simp [execOp,ho,ha.eval hc,ha.eval (by simpa using hv:ev l y=some v),asBool]
  · simp [execOp,ho,ha.eval hc,ha.eval (by simpa using hv:ev l x=some v),asBool]
theorem lz {c x:Operand} {g v:Bool} (hc:ev l c=some (.bool g)) (hx:ev l x=some (kE [(g,true)] (.bool v))):cx P n l own ro (.pick c x (.const (.bool false))) ty (.bool (g && v)):=by
  refine jJ hc ?_
  cases g
  · rfl
  · simpa [kE] using hx
theorem v_or {c x:Operand} {g v:Bool} (hc:ev l c=some (.bool g)) (hx:ev l x=some (kE [(g,false)] (.bool v))):cx P n l own ro (.pick c (.const (.bool true)) x) ty (.bool (g || v)):=by
  refine jJ hc ?_
  cases g
  · simpa [kE] using hx
  · rfl
theorem vc {f:FuncId} {cs:List Operand} {vs:List Value} (hx:lw l cs=some vs):cx P n l own ro (.makeFunc (.func f) #[] cs.toArray) ty (.func (.func f) #[] vs.toArray):=by
  intro a w o ha _ ho _
  have:=ha.evals hx
  simp [execOp,ho,Instr.makeFunc,← this]
theorem tt {x:Operand} {b:Bool} {t:TypeId} (hx:ev l x=some (.bool b)):cx P n l own ro (.unOp .not t x) ty (.bool (!b)):=by
  intro a w o ha _ ho _
  simp [execOp,ho,ha.eval hx,Op.unary]
theorem qd {x:Operand} {t:TypeId} {s:ByteArray} (ht:P.underlying t=some .string) (hx:ev l x=some (.string s)):cx P n l own ro (.call ⟨.builtin .len,#[x],#[t]⟩) ty (.int .i64 s.size):=by
  intro a w o ha _ ho _
  simp [execOp,ho,resolve,invoke,builtin,ha.eval hx,Builtin.len_,run_underlying ht,goInt]
theorem jK {x:Operand} {t e:TypeId} {A:Option Addr} {m c:Nat} (ht:P.underlying t=some (.slice e)) (hx:ev l x=some (.slice A m c)):cx P n l own ro (.call ⟨.builtin .len,#[x],#[t]⟩) ty (.int .i64 m):=by
  intro a w o ha _ ho _
  simp [execOp,ho,resolve,invoke,builtin,ha.eval hx,Builtin.len_,run_underlying ht,goInt]
end
end Go.PK

namespace Go.PK
open Go Go.RowKit
section
variable {P:Program} {n:Nat} {l:List (Nat×Value)} {own:List (Nat×Obj)} {ro:List av} {ty:TypeId} {x y:Operand} {t t':TypeId} {k k':IntKind} {a b:Int}
theorem v_add (hx:ev l x=some (.int k a)) (hy:ev l y=some (.int k b)):cx P n l own ro (.binOp .add t x y t') ty (.int k (k.wrap (a+b))):=by
  intro A w o ha _ ho _
  simp [execOp,ho,ha.eval hx,ha.eval hy,eqGuard,binOp,Op.intArith]
theorem v_sub (hx:ev l x=some (.int k a)) (hy:ev l y=some (.int k b)):cx P n l own ro (.binOp .sub t x y t') ty (.int k (k.wrap (a - b))):=by
  intro A w o ha _ ho _
  simp [execOp,ho,ha.eval hx,ha.eval hy,eqGuard,binOp,Op.intArith]
theorem v_mul (hx:ev l x=some (.int k a)) (hy:ev l y=some (.int k b)):cx P n l own ro (.binOp .mul t x y t') ty (.int k (k.wrap (a*b))):=by
  intro A w o ha _ ho _
  simp [execOp,ho,ha.eval hx,ha.eval hy,eqGuard,binOp,Op.intArith]
theorem v_quo (hx:ev l x=some (.int k a)) (hy:ev l y=some (.int k b)) (h0:b≠0):cx P n l own ro (.binOp .quo t x y t') ty (.int k (k.wrap (a.tdiv b))):=by
  intro A w o ha _ ho _
  simp [execOp,ho,ha.eval hx,ha.eval hy,eqGuard,binOp,Op.intDiv,h0]
theorem jL (hx:ev l x=some (.int k a)) (hy:ev l y=some (.int k b)) (h0:b≠0):cx P n l own ro (.binOp .rem t x y t') ty (.int k (a.tmod b)):=by
  intro A w o ha _ ho _
  simp [execOp,ho,ha.eval hx,ha.eval hy,eqGuard,binOp,Op.intDiv,h0]
theorem eV {n:Int} (h:-9223372036854775808≤n∧n≤9223372036854775807):IntKind.i64.wrap n=n:=by
  rw [IntKind.wrap_i64]; omega
theorem bg (hx:ev l x=some (.int .i64 a)) (hy:ev l y=some (.int .i64 b)) {c:Int} (hc:a+b=c) (h:-9223372036854775808≤c∧c≤9223372036854775807):cx P n l own ro (.binOp .add t x y t') ty (.int .i64 c):=by
  have:=v_add (P:=P) (n:=n) (own:=own) (ro:=ro) (t:=t) (t':=t') (ty:=ty) hx hy
  rwa [hc,eV h] at this
theorem dH (hx:ev l x=some (.int .i64 a)) (hy:ev l y=some (.int .i64 b)) {c:Int} (hc:a - b=c) (h:-9223372036854775808≤c∧c≤9223372036854775807):cx P n l own ro (.binOp .sub t x y t') ty (.int .i64 c):=by
  have:=v_sub (P:=P) (n:=n) (own:=own) (ro:=ro) (t:=t) (t':=t') (ty:=ty) hx hy
  rwa [hc,eV h] at this
theorem cY (hx:ev l x=some (.int .i64 a)) (hy:ev l y=some (.int .i64 b)) {c:Int} (hc:a*b=c) (h:-9223372036854775808≤c∧c≤9223372036854775807):cx P n l own ro (.binOp .mul t x y t') ty (.int .i64 c):=by
  have:=v_mul (P:=P) (n:=n) (own:=own) (ro:=ro) (t:=t) (t':=t') (ty:=ty) hx hy
  rwa [hc,eV h] at this
theorem iq (hx:ev l x=some (.int .i64 a)) (hy:ev l y=some (.int .i64 b)) (h0:b≠0) {c:Int} (hc:a.tdiv b=c) (h:-9223372036854775808≤c∧c≤9223372036854775807):cx P n l own ro (.binOp .quo t x y t') ty (.int .i64 c):=by
  have:=v_quo (P:=P) (n:=n) (own:=own) (ro:=ro) (t:=t) (t':=t') (ty:=ty) hx hy h0
  rwa [hc,eV h] at this
theorem v_lss (hx:ev l x=some (.int k a)) (hy:ev l y=some (.int k b)):cx P n l own ro (.binOp .lss t x y t') ty (.bool (decide (a < b))):=by
  intro A w o ha _ ho _
  simp [execOp,ho,ha.eval hx,ha.eval hy,eqGuard,binOp,Op.intCmp]
theorem nM (hx:ev l x=some (.int k a)) (hy:ev l y=some (.int k b)):cx P n l own ro (.binOp .leq t x y t') ty (.bool (decide (a≤b))):=by
  intro A w o ha _ ho _
  simp [execOp,ho,ha.eval hx,ha.eval hy,eqGuard,binOp,Op.intCmp]
theorem wz (hx:ev l x=some (.int k a)) (hy:ev l y=some (.int k b)):cx P n l own ro (.binOp .gtr t x y t') ty (.bool (decide (b < a))):=by
  intro A w o ha _ ho _
  simp [execOp,ho,ha.eval hx,ha.eval hy,eqGuard,binOp,Op.intCmp]
theorem v_geq (hx:ev l x=some (.int k a)) (hy:ev l y=some (.int k b)):cx P n l own ro (.binOp .geq t x y t') ty (.bool (decide (b≤a))):=by
  intro A w o ha _ ho _
  simp [execOp,ho,ha.eval hx,ha.eval hy,eqGuard,binOp,Op.intCmp]
theorem mS (hx:ev l x=some (.int k a)) (hy:ev l y=some (.int k b)):cx P n l own ro (.binOp .eql t x y t') ty (.bool (decide (a=b))):=by
  intro A w o ha _ ho _
  simp [execOp,ho,ha.eval hx,ha.eval hy,eqGuard,binOp,Op.intCmp]
  rw [Bool.eq_iff_iff]; simp
theorem tu (hx:ev l x=some (.int k a)) (hy:ev l y=some (.int k b)):cx P n l own ro (.binOp .neq t x y t') ty (.bool (decide (a≠b))):=by
  intro A w o ha _ ho _
  simp [execOp,ho,ha.eval hx,ha.eval hy,eqGuard,binOp,Op.intCmp]
  rw [Bool.eq_iff_iff]; simp
theorem me {td:TypeDesc} (hs:P.underlying t=some td) (hd:P.underlying t'=some (.int k')) (hx:ev l x=some (.int k a)):cx P n l own ro (.convert t t' x) ty (.int k' (k'.wrap a)):=by
  intro A w o ha _ ho _
  simp [execOp,ho,ha.eval hx,convert,run_underlying hs,run_underlying hd,Conv.intToInt]
variable {s u:ByteArray}
theorem toList_eq {s u:ByteArray}:(s.toList == u.toList)=decide (s=u):=by
  rw [Bool.eq_iff_iff]
  simp only [beq_iff_eq,decide_eq_true_eq]
  constructor
  · intro h
    apply ByteArray.ext
    rw [ByteArray.toList_eq,ByteArray.toList_eq] at h
    exact Array.toList_inj.1 h
  · rintro rfl; rfl
theorem rx (hx:ev l x=some (.string s)) (hy:ev l y=some (.string u)):cx P n l own ro (.binOp .eql t x y t') ty (.bool (decide (s=u))):=by
  intro A w o ha _ ho _
  simp [execOp,ho,ha.eval hx,ha.eval hy,eqGuard,binOp,Op.stringOp,toList_eq]
theorem vd (hx:ev l x=some (.string s)) (hy:ev l y=some (.string u)):cx P n l own ro (.binOp .neq t x y t') ty (.bool (decide (s≠u))):=by
  intro A w o ha _ ho _
  simp [execOp,ho,ha.eval hx,ha.eval hy,eqGuard,binOp,Op.stringOp,toList_eq]
theorem cK (hx:ev l x=some (.string s)) (hy:ev l y=some (.string u)) (h:s.size+u.size≤9223372036854775807):cx P n l own ro (.binOp .add t x y t') ty (.string (s++u)):=by
  intro A w o ha _ ho _
  have:=@run_string_add_sum P w s u h
  simp [execOp,ho,ha.eval hx,ha.eval hy,eqGuard,binOp,this]
def ad (s:ByteArray) (j:Nat):UInt8:=s.data.toList.getD j 0
theorem mg {s:ByteArray} {j:Nat} (h:j < s.size):ad s j=s[j]:=by
  have h2:j < s.data.toList.length:=by simpa using h
  unfold ad
  rw [List.getD_eq_getElem?_getD,List.getElem?_eq_getElem h2]
  rfl
theorem bv {j:Nat} (ht:P.underlying t=some .string) (hx:ev l x=some (.string s)) (hy:ev l y=some (.int k (j:Nat))) (hj:j < s.size):cx P n l own ro (.index t x y) ty (.int .u8 (ad s j).toNat):=by
  intro A w o ha _ ho _
  have h2:s[j]?=some s[j]:=getElem?_pos s j hj
  rw [mg hj]
  simp [execOp,ho,ha.eval hx,ha.eval hy,Instr.index,run_underlying ht,asIntOf,h2]
theorem mh {p q:Bool} {w:World} (ht:P.underlying t=some .bool) (d:Nat):(Op.equalIn (d+1) t (.bool p) (.bool q)).run P w=.ok (p == q) w:=by simp [Op.equalIn,run_underlying ht]
theorem nN {p q:Bool} {w:World} (ht:P.underlying t=some .bool):(Op.equal t (.bool p) (.bool q)).run P w=.ok (p == q) w:=mh ht 9999
theorem v_bneq {p q:Bool} (hx:ev l x=some (.bool p)) (hy:ev l y=some (.bool q)) (ht:P.underlying t=some .bool):cx P n l own ro (.binOp .neq t x y t') ty (.bool (!(p == q))):=by
  intro A w o ha _ ho _
  simp [execOp,ho,ha.eval hx,ha.eval hy,eqGuard,binOp,nN ht]
theorem v_cut {i j:Nat} {z:Operand} (ht:P.underlying t=some .string) (hx:ev l x=some (.string s)) (hy:ev l y=some (.int k (i:Nat))) (hz:ev l z=some (.int k' (j:Nat))) (hi:i≤j) (hj:j≤s.size) :
    cx P n l own ro (.slice t x (some y) (some z) none) ty (.string (s.extract i j)):=by
  intro A w o ha _ ho _
  have h:=@run_slice_string_if P w t s k k' i j ht
  rw [if_pos (by omega),if_pos (by omega)] at h
  simp only [Int.toNat_natCast] at h
  have h2:(Instr.sliceAt t (.string s) (some (.int k (i:Nat))) (some (.int k' (j:Nat))) none).run P w=.ok (.string (s.extract i j)) w:=by
    simp only [Instr.sliceAt,Sem.run_bind,run_underlying ht,Result.andThen_ok,h]
  simp [execOp,ho,ha.eval hx,ha.eval hy,ha.eval hz,h2]
theorem jg {i:Nat} (ht:P.underlying t=some .string) (hx:ev l x=some (.string s)) (hy:ev l y=some (.int k (i:Nat))) (hi:i≤s.size) :
    cx P n l own ro (.slice t x (some y) none none) ty (.string (s.extract i s.size)):=by
  intro A w o ha _ ho _
  have h2:(Instr.sliceAt t (.string s) (some (.int k (i:Nat))) none none).run P w=.ok (.string (s.extract i s.size)) w:=by
    simp [Instr.sliceAt,Instr.slice,Instr.sliceBounds,Instr.sliceBound,asIntOf,run_underlying ht,hi]
  simp [execOp,ho,ha.eval hx,ha.eval hy,h2]
theorem iF {j:Nat} (ht:P.underlying t=some .string) (hx:ev l x=some (.string s)) (hy:ev l y=some (.int k (j:Nat))) (hj:j≤s.size) :
    cx P n l own ro (.slice t x none (some y) none) ty (.string (s.extract 0 j)):=by
  intro A w o ha _ ho _
  have h2:(Instr.sliceAt t (.string s) none (some (.int k (j:Nat))) none).run P w=.ok (.string (s.extract 0 j)) w:=by
    simp [Instr.sliceAt,Instr.slice,Instr.sliceBounds,Instr.sliceBound,asIntOf,run_underlying ht,hj]
  simp [execOp,ho,ha.eval hx,ha.eval hy,h2]
theorem jM {fs:Array Field} {f:Field} {j m b off off':Nat} (ht:P.underlying t=some (.struct fs)) (hf:fs[j]?=some f) (hs:(P.info? f.type).map (·.size)=some m) (hm:m≠0) (hx:ev l x=some (.pointer (some ⟨b,off,none⟩))) (ho':off+f.offset=off') :
    cx P n l own ro (.fieldAddr t x j) ty (.pointer (some ⟨b,off',none⟩)):=by
  intro A w o ha _ ho _
  obtain ⟨inf,hi,hsz⟩:=Option.map_eq_some_iff.1 hs
  have:(Addr.mk b off none).add f.offset=⟨b,off',none⟩:=by
    unfold Addr.add
    split
    · simp <;> omega
    · simp [ho']
  simp [execOp,ho,ha.eval hx,Instr.fieldAt,run_underlying ht,hf,Instr.sureAddr,fieldPlace,sizeOf,typeInfo,hi,hsz,hm,this]
theorem ae {e:TypeId} {j m b off len cap off':Nat} (ht:P.underlying t=some (.slice e)) (hs:(P.info? e).map (·.size)=some m) (hx:ev l x=some (.slice (some ⟨b,off,none⟩) len cap)) (hy:ev l y=some (.int k (j:Nat))) (hj:j < len) (ho':off+j*m=off') :
    cx P n l own ro (.indexAddr t x y) ty (.pointer (some ⟨b,off',none⟩)):=by
  intro A w o ha _ ho _
  obtain ⟨inf,hi,hsz⟩:=Option.map_eq_some_iff.1 hs
  have:(Addr.mk b off none).add (j*m)=⟨b,off',none⟩:=by
    unfold Addr.add
    split
    · simp <;> omega
    · simp [ho']
  simp [execOp,ho,ha.eval hx,ha.eval hy,Instr.indexAt,run_underlying ht,asIntOf,sizeOf,typeInfo,hi,hsz,hj,this]
end
end Go.PK

namespace Go.PK
open Go Go.RowKit
theorem jh (b off j:Nat):(Addr.mk b off none).add j=⟨b,off+j,none⟩:=by
  unfold Addr.add
  split
  · subst_vars; rfl
  · rfl
def jD (d:TypeDesc):Bool:=match d with | .struct _ | .array _ _=>true | _=>false
theorem gn {P:Program} {w:World} {t:TypeId} {d:TypeDesc} (ht:P.underlying t=some d):(isAgg t).run P w=.ok (jD d) w:=by
  unfold isAgg jD
  rw [Sem.run_bind,run_underlying ht w]
  cases d <;> simp
theorem run_sizeOf {P:Program} {w:World} {t:TypeId} {m:Nat} (hs:(P.info? t).map (·.size)=some m):(sizeOf t).run P w=.ok m w:=by
  obtain ⟨inf,hi,hsz⟩:=Option.map_eq_some_iff.1 hs
  simp [sizeOf,typeInfo,hi,hsz]
section
variable {P:Program} {n:Nat} {l:List (Nat×Value)} {own:List (Nat×Obj)} {ro:List av} {lops:List Oper} {Q:Exit→Act→World→Prop} {K:Act→World→Prop}
  {rest:List (Option Bool×Nat)} {k:Option Bool} {i d:Nat} {op:Op} {ty:TypeId} {pos:String} {af:Array Edge} {x y:Operand} {t:TypeId} {td:TypeDesc} {b off:Nat}
def At (own:List (Nat×Obj)) (ro:List av) (b off:Nat) (v:Value):Prop:=∀ w,Mem w own ro→w.cell? ⟨b,off,none⟩=some v
theorem at_own {cs:Array Value} {e:TypeId} {fz:Nat×Nat} {v:Value} (hb:(b,Obj.cells cs e fz)∈own) (hv:cs[off]?=some v):At own ro b off v :=
  fun w hw=>(hw.cell_own hb off).trans hv
theorem aa {vs:List Value} {e:TypeId} {fz:Nat×Nat} {v:Value} (hb:(b,Obj.cells vs.toArray e fz)∈own) (hv:vs[off]?=some v):At own ro b off v :=
  at_own hb (by simpa using hv)
theorem an {s:av} {v:Value} (hs:s∈ro) (hd:s.2 b) (hc:s.1.cell? ⟨b,off,none⟩=some v):At own ro b off v :=
  fun w hw=>(hw.cell_ro hs (p:=⟨b,off,none⟩) hd (eu (p:=⟨b,off,none⟩) hc)).trans hc
theorem aW {v:Value} (ht:P.underlying t=some td) (hd:jD td=false) (hx:ev l x=some (.pointer (some ⟨b,off,none⟩))) (hc:At own ro b off v):cx P n l own ro (.load t x) ty v:=by
  intro A w o ha hw ho _
  simp [execOp,ho,ha.eval hx,Instr.loadAt,Instr.sureAddr,loadVar,gn ht,hd,hc w hw]
theorem bj {vs:List Value} (ht:P.underlying t=some td) (hd:jD td=true) (hs:(P.info? t).map (·.size)=some vs.length) (hx:ev l x=some (.pointer (some ⟨b,off,none⟩))) (hc:∀ j (hj:j < vs.length),At own ro b (off+j) vs[j]) :
    cx P n l own ro (.load t x) ty (.agg vs.toArray):=by
  intro A w o ha hw ho _
  have hl:(loadCells ⟨b,off,none⟩ vs.length).run P w=.ok vs.toArray w:=run_loadCells_list (P:=P) w ⟨b,off,none⟩ vs (fun j v hv=>by
    rw [jh]
    obtain ⟨hj,rfl⟩:=List.getElem?_eq_some_iff.1 hv
    exact hc j hj w hw)
  simp [execOp,ho,ha.eval hx,Instr.loadAt,Instr.sureAddr,loadVar,gn ht,hd,run_sizeOf hs,hl]
theorem bS {cs:Array Value} {e:TypeId} {fz:Nat×Nat} (ht:P.underlying t=some td) (hd:jD td=true) (hx:ev l x=some (.pointer (some ⟨b,0,none⟩))) (hb:(b,Obj.cells cs e fz)∈own) (hs:(P.info? t).map (·.size)=some cs.size) :
    cx P n l own ro (.load t x) ty (.agg cs):=by
  intro A w o ha hw ho _
  have:=run_loadVar_row w b e t cs fz td (hw.own_at _ hb) ht (by cases td <;> simp_all [jD]) hs
  simp [execOp,ho,ha.eval hx,Instr.loadAt,Instr.sureAddr,this]
theorem nO {o:Oper} (ho:lops[i]?=some o) (hgo:Go_ lops n l o) (hd0:o.dst=some d) (hk:(k == some true)=false) (hd:decide (d < n)=true) {ob:Obj} {f:Nat→Value}
    (hr:∀ a w,FH n l a→Mem w own ro→(execOp a.eval o).run P w=.ok (.value (f w.heap.size)) (w.alloc ob))
    (h:∀ b,WX P lops.toArray Q K rest n ((d,f b)::l) ((b,ob)::own) ro):WX P lops.toArray Q K ((k,i)::rest) n l own ro:=by
  intro a w ha hw
  have hd':d < n:=of_decide_eq_true hd
  have hw1:=hgo a ha
  simp only [hJ,List.getElem?_toArray,ho]
  have key:∀ w',Later w w'→hJ P lops.toArray Q K rest (a.put o.dst (f w'.heap.size)) (w'.alloc ob):=fun w' hl=>by
    rw [hd0]
    exact h _ _ _ (ha.put _ hd') ((hw.later hl).new ob)
  cases k with
  | none =>
    intro w' hl
    rw [if_pos hw1]
    unfold Oper.wp
    rw [hr a w' ha (hw.later hl)]
    exact key w' hl
  | some b =>
    have:b=false:=by cases b <;> simp_all
    subst this
    dsimp only
    rw [if_pos hw1]
    intro w' hl
    unfold Oper.wp
    rw [hr a w' ha (hw.later hl)]
    exact ⟨Later.alloc _ _,key w' hl⟩
theorem cy {w:World} {e:TypeId} {z:Value} (hz:(P.info? e).bind (·.zero)=some z):(zeroValue e).run P w=.ok z w:=by
  cases hi:P.info? e with
  | none=>simp [hi] at hz
  | some inf =>
    have:inf.zero=some z:=by simpa [hi] using hz
    simp [zeroValue,typeInfo,hi,this]
theorem x_alloc {z:Value} {e:TypeId} (ho:lops[i]?=some ⟨some d,.alloc e,ty,pos,af,none⟩) (hk:(k == some true)=false) (hd:decide (d < n)=true)
    (hz:(P.info? e).bind (·.zero)=some z)
    (h:∀ b,WX P lops.toArray Q K rest n ((d,.pointer (some ⟨b,0,none⟩))::l) ((b,.cells z.cells e)::own) ro):WX P lops.toArray Q K ((k,i)::rest) n l own ro :=
  nO (f:=fun b=>.pointer (some ⟨b,0,none⟩)) ho (bU rfl) rfl hk hd (fun a w ha hw=>by
    simp [execOp,Instr.alloc,cy hz,newVar,newRow]) h
theorem x_box {v:Value} {e:TypeId} (ho:lops[i]?=some ⟨some d,.box e x,ty,pos,af,none⟩) (hk:(k == some true)=false) (hd:decide (d < n)=true) (hx:ev l x=some v)
    (h:∀ b,WX P lops.toArray Q K rest n ((d,.pointer (some ⟨b,0,none⟩))::l) ((b,.cells v.cells e)::own) ro):WX P lops.toArray Q K ((k,i)::rest) n l own ro :=
  nO (f:=fun b=>.pointer (some ⟨b,0,none⟩)) ho (bU rfl) rfl hk hd (fun a w ha hw=>by
    simp [execOp,Instr.box,newVar,newRow,ha.eval hx]) h
def evp (l:List (Nat×Value)):List (Nat×Operand)→Option (List (Nat×Value))
  | []=>some []
  | (j,x)::r=>match ev l x,evp l r with
    | some v,some vs=>some ((j,v)::vs)
    | _,_=>none
theorem FH.evps {a:Act} (h:FH n l a):∀ {r:List (Nat×Operand)} {vs:List (Nat×Value)},evp l r=some vs→r.map (fun p=>(p.1,a.eval p.2))=vs
  | [],vs,hx=>by simp [evp] at hx; simp [hx]
  | (j,x)::r,vs,hx=>by
    simp only [evp] at hx
    split at hx
    · rename_i v us hv hus
      cases hx
      simp [h.eval hv,h.evps hus]
    · cases hx
theorem v_build {parts:List (Nat×Operand)} {vs:List (Nat×Value)} {fs:Array Field} {z:Value} {cs:Array Value} {places:Array (Nat×Nat)} (ht:P.underlying t=some (.struct fs)) (hz:(P.info? t).bind (·.zero)=some z)
    (hp:fs.toList.map (fun f=>((P.info? f.type).map fun j=>(f.offset,j.size)))=places.toList.map some) (hx:evp l parts=some vs) (hf:Instr.fill (places[·]?) z.cells vs=some cs) :
    cx P n l own ro (.build t parts.toArray) ty (.agg cs):=by
  intro A w o ha hw ho _
  have hm:∀ (fs:List Field) (ps:List (Nat×Nat)),fs.map (fun f=>((P.info? f.type).map fun j=>(f.offset,j.size)))=ps.map some →
      (fs.mapM fun f=>do pure (f.offset,← sizeOf f.type):Sem (List (Nat×Nat))).run P w=.ok ps w:=by
    intro fs
    induction fs with
    | nil=>intro ps hps; cases ps with
      | nil=>simp
      | cons _ _=>simp at hps
    | cons f fs ih=>intro ps hps; cases ps with
      | nil=>simp at hps
      | cons p ps =>
        simp only [List.map_cons,List.cons.injEq] at hps
        obtain ⟨h1,h2⟩:=hps
        cases hi:P.info? f.type with
        | none=>simp [hi] at h1
        | some inf =>
          simp [hi] at h1
          have ih2:=ih ps h2
          simp only [List.mapM_cons,Sem.run_bind,run_sizeOf (P:=P) (w:=w) (t:=f.type) (m:=inf.size) (by simp [hi]),Result.andThen_ok,Sem.run_pure,h1]
          rw [ih2]
          simp
  have hm2:(fs.mapM fun f=>do pure (f.offset,← sizeOf f.type):Sem (Array (Nat×Nat))).run P w=.ok places w:=by
    rw [Array.mapM_eq_mapM_toList]
    have:=hm fs.toList places.toList hp
    simp only [Sem.run_bind,map_eq_pure_bind,this,Result.andThen_ok,Sem.run_pure]
  have hparts:(parts.toArray.map fun (i,x)=>(i,A.eval x)).toList=vs:=by
    rw [Array.toList_map]; exact ha.evps hx
  simp only [execOp,ho,Instr.build,Sem.run_bind,cy hz,Result.andThen_ok,run_underlying ht,hm2,hparts,hf,Sem.run_pure]
theorem ry {parts:List (Nat×Operand)} {vs:List (Nat×Value)} {e:TypeId} {z:Value} {cs:Array Value} {len m:Nat} (ho:lops[i]?=some ⟨some d,.buildSlice t len parts.toArray,ty,pos,af,none⟩) (hk:(k == some true)=false) (hd:decide (d < n)=true)
    (ht:P.underlying t=some (.slice e)) (hs:(P.info? e).map (·.size)=some m) (hz:(P.info? e).bind (·.zero)=some z) (hlen:(decide (len*m≤2 ^ 24) && decide (0 < len*m))=true) (hx:evp l parts=some vs)
    (hf:Instr.fill (fun j=>some (j*m,m)) ((Array.range (len*m)).map (z.cells[·%z.cells.size]!)) vs=some cs)
    (h:∀ b,WX P lops.toArray Q K rest n ((d,.slice (some ⟨b,0,none⟩) len len)::l) ((b,.cells cs e)::own) ro):WX P lops.toArray Q K ((k,i)::rest) n l own ro :=
  nO (f:=fun b=>.slice (some ⟨b,0,none⟩) len len) ho (bU rfl) rfl hk hd (fun A w ha hw=>by
    have hparts:(parts.toArray.map fun (i,x)=>(i,A.eval x)).toList=vs:=by
      rw [Array.toList_map]; exact ha.evps hx
    simp only [Bool.and_eq_true,decide_eq_true_eq] at hlen
    have h1:¬ len*m > 2 ^ 24:=by omega
    have h2:¬ len*m=0:=by omega
    simp only [execOp,Instr.buildSlice,Sem.run_bind,run_underlying ht,Result.andThen_ok,run_sizeOf hs,h1,h2,if_false,cy hz,Sem.run_pure,hparts,hf,newRow]
    simp) h
theorem zB {w:World} {g:Nat} {cs cs':Array Value} {e:TypeId} (h:w.heap[g]?=some (.cells cs e (0,0))):Turned w (w.setRow g cs') g (.cells cs' e (0,0)) where
  os:=rfl
  tape:=rfl
  output:=rfl
  size:=by simp [World.setRow]
  at_:=setRow_heap w g cs cs' e (0,0) h
  other:=fun k hk=>by
    simp only [World.setRow,Array.getElem?_modify]
    rw [if_neg (fun e=>hk e.symm)]
theorem lA {o:Oper} {v:Value} {l1 l2:List (Nat×Obj)} {cs:List Value} {e:TypeId} {m:Nat} (ho:lops[i]?=some o) (hgo:Go_ lops n l o) (hop:o.op=.store t x y) (hd0:o.dst=none) (hx:ev l x=some (.pointer (some ⟨b,off,none⟩))) (hy:ev l y=some v)
    (hs:(P.info? t).map (·.size)=some m) (hm:(decide (v.cells.size=m) && v.cells.toList.all (fun u=>u.oneCell'))=true) (hb:off+m≤cs.length) (hown:own=l1++(b,.cells cs.toArray e (0,0))::l2)
    (h:WX P lops.toArray Q K rest n l (l1++(b,.cells (cs.take off++v.cells.toList++cs.drop (off+m)).toArray e (0,0))::l2) ro):WX P lops.toArray Q K ((none,i)::rest) n l own ro:=by
  subst hown
  intro a w ha hw
  simp only [Bool.and_eq_true,decide_eq_true_eq,List.all_eq_true] at hm
  obtain ⟨hm,h1⟩:=hm
  have hw1:=hgo a ha
  simp only [hJ,List.getElem?_toArray,ho]
  intro w' hl
  rw [if_pos hw1]
  have hM:=hw.later hl
  have hg:w'.heap[b]?=some (.cells cs.toArray e (0,0)):=hM.own_at (b,_) (by simp)
  have hlen:v.cells.toList.length=m:=by simpa using hm
  have hst:=run_storeCells_at (P:=P) b off e v.cells.toList 0 cs.toArray w' hg (by simp only [List.size_toArray]; omega) h1
  have hst2:(storeVar t ⟨b,off,none⟩ v).run P w'=.ok () (w'.setRow b (cs.take off++v.cells.toList++cs.drop (off+m)).toArray):=by
    simp only [storeVar,Sem.run_bind,run_sizeOf hs,Result.andThen_ok,hm,ne_eq,not_true,if_false,hst,Nat.add_zero,hlen]
  unfold Oper.wp
  have hrun:(execOp a.eval o).run P w'=.ok .skip (w'.setRow b (cs.take off++v.cells.toList++cs.drop (off+m)).toArray):=by
    simp only [execOp,hop,ha.eval hx,ha.eval hy,Instr.storeAt,Instr.sureAddr,Sem.run_bind,Sem.run_pure,Result.andThen_ok,hst2]
  rw [hrun]
  show hJ P lops.toArray Q K rest (a.put o.dst undef) _
  rw [hd0]
  exact h a _ ha (hM.turn (zB hg))
theorem aG {v:Value} (l1:List (Nat×Obj)) {l2:List (Nat×Obj)} {cs:List Value} {e:TypeId} {m:Nat} (ho:lops[i]?=some ⟨none,.store t x y,ty,pos,af,none⟩) (hx:ev l x=some (.pointer (some ⟨b,off,none⟩))) (hy:ev l y=some v)
    (hown:own=l1++(b,.cells cs.toArray e (0,0))::l2) (hs:(P.info? t).map (·.size)=some m) (hm:(decide (v.cells.size=m) && v.cells.toList.all (fun u=>u.oneCell'))=true) (hb:off+m≤cs.length)
    (h:WX P lops.toArray Q K rest n l (l1++(b,.cells (cs.take off++v.cells.toList++cs.drop (off+m)).toArray e (0,0))::l2) ro):WX P lops.toArray Q K ((none,i)::rest) n l own ro :=
  lA ho (bU rfl) rfl rfl hx hy hs hm hb hown h
theorem bp {e:TypeId} {N j m b off off':Nat} {kk:IntKind} (ht:P.underlying t=some (.array N e)) (hs:(P.info? e).map (·.size)=some m) (hx:ev l x=some (.pointer (some ⟨b,off,none⟩))) (hy:ev l y=some (.int kk (j:Nat))) (hj:j < N) (ho':off+j*m=off') :
    cx P n l own ro (.indexAddr t x y) ty (.pointer (some ⟨b,off',none⟩)):=by
  intro A w o ha _ ho _
  obtain ⟨inf,hi,hsz⟩:=Option.map_eq_some_iff.1 hs
  have:(Addr.mk b off none).add (j*m)=⟨b,off',none⟩:=by rw [jh,ho']
  simp [execOp,ho,ha.eval hx,ha.eval hy,Instr.indexAt,run_underlying ht,asIntOf,Instr.sureAddr,sizeOf,typeInfo,hi,hsz,hj,this]
theorem bX {v:Value} (l1:List (Nat×Obj)) {l2:List (Nat×Obj)} {cs:Array Value} {e:TypeId} {m:Nat} (ho:lops[i]?=some ⟨none,.store t x y,ty,pos,af,none⟩) (hx:ev l x=some (.pointer (some ⟨b,0,none⟩))) (hy:ev l y=some v)
    (hown:own=l1++(b,.cells cs e (0,0))::l2) (hs:(P.info? t).map (·.size)=some m) (hm:(decide (v.cells.size=m) && v.cells.toList.all (fun u=>u.oneCell'))=true) (hb:cs.size=m)
    (h:WX P lops.toArray Q K rest n l (l1++(b,.cells v.cells e (0,0))::l2) ro):WX P lops.toArray Q K ((none,i)::rest) n l own ro:=by
  have hsz:v.cells.size=m:=by simp only [Bool.and_eq_true,decide_eq_true_eq] at hm; exact hm.1
  refine lA (cs:=cs.toList) ho (bU rfl) rfl rfl hx hy hs hm (by simp [hb]) (by simpa using hown) ?_
  have e1:(cs.toList.take 0++v.cells.toList++cs.toList.drop (0+m)).toArray=v.cells:=by
    rw [List.take_zero,List.drop_eq_nil_of_le (by simp [hb])]
    simp
  rw [e1]
  exact h
theorem qe {e:TypeId} {A:Option Addr} {len cap j m:Nat} {kk:IntKind} (ht:P.underlying t=some (.slice e)) (hs:(P.info? e).map (·.size)=some m) (hx:ev l x=some (.slice A len cap)) (hy:ev l y=some (.int kk (j:Nat))) (hj:j≤cap) :
    cx P n l own ro (.slice t x none (some y) none) ty (.slice A j cap):=by
  intro a w o ha hw ho _
  have h2:(Instr.sliceAt t (.slice A len cap) none (some (.int kk (j:Nat))) none).run P w=.ok (.slice A j cap) w:=by
    have hA:(if cap=0 then A else A.map (fun a=>a.add (0*m)))=A:=by
      split
      · rfl
      · cases A with
        | none=>rfl
        | some a=>simp [Addr.add]
    simp [Instr.sliceAt,Instr.slice,Instr.sliceBounds,Instr.sliceBound,asIntOf,run_underlying ht,hj,run_sizeOf hs]
    simpa using hA
  simp [execOp,ho,ha.eval hx,ha.eval hy,h2]
end
end Go.PK

namespace Go.PK
open Go Go.RowKit
def nP:Nat→List Value→List (Nat×Value)
  | _,[]=>[]
  | i,v::vs=>(i,v)::nP (i+1) vs
theorem ge:∀ (vs:List Value) (i s:Nat) (v:Value),(nP i vs).lookup s=some v→i≤s∧vs[s - i]?=some v
  | [],_,_,_,h=>by simp [nP] at h
  | u::us,i,s,v,h=>by
    simp only [nP,List.lookup_cons] at h
    by_cases hs:s=i
    · subst hs; simp at h; simp [h]
    · have:(s == i)=false:=by simpa using hs
      simp only [this] at h
      obtain ⟨h1,h2⟩:=ge us (i+1) s v h
      refine ⟨by omega,?_⟩
      rw [show s - i=(s - (i+1))+1 by omega]
      simpa using h2
section
variable {P:Program} {n:Nat} {l:List (Nat×Value)} {own:List (Nat×Obj)} {ro:List av} {Q:Exit→Act→World→Prop} {K:Act→World→Prop} {R:Ending→World→Prop} {fn:Func}
theorem enter {f:FuncId} {c:Code} {vs:List Value} {w:World} (hf:P.funcs[f]?=some fn) (hb:fn.body=some c) (hn:fn.ntmps=n) (hv:decide (vs.length≤n)=true)
    (h:W P c (bodyPost P fn R) n (nP 0 vs) [] [(w,fun _=>True)]):Calls P f vs.toArray w R:=by
  have hv':=of_decide_eq_true hv
  refine calls_of_wp hf hb (h _ w ⟨by simp [hn]; omega,rfl,fun s v hs=>?_⟩ (Mem.init w))
  obtain ⟨_,h2⟩:=ge _ _ _ _ hs
  simp only [Nat.sub_zero] at h2
  have hlt:s < vs.length:=(List.getElem?_eq_some_iff.1 h2).1
  show (vs.toArray++_)[s]?=some v
  rw [Array.getElem?_append_left (by simpa using hlt)]
  simpa using h2
theorem t_ret {K:Act→World→Prop} (h:S (Q .ret) n l own ro):S (Exit.then K Q .ret) n l own ro:=h
theorem t_exit {K:Act→World→Prop} {id:Nat} (h:S (Q (.exit id)) n l own ro):S (Exit.then K Q (.exit id)) n l own ro:=h
theorem b_ret {id:Nat} (h:S (Q .ret) n l own ro):S (Exit.inBlock id Q .ret) n l own ro:=h
theorem b_norm {id:Nat} (h:S (Q .normal) n l own ro):S (Exit.inBlock id Q .normal) n l own ro:=h
theorem b_hit {id:Nat} (h:S (Q .normal) n l own ro):S (Exit.inBlock id Q (.exit id)) n l own ro:=fun a w ha hw=>by
  simp only [Exit.inBlock,if_true]; exact h a w ha hw
theorem aJ {σ:Type} {I:σ→Prop} {L:σ→List (Nat×Value)} {O:σ→List (Nat×Obj)} {Rr:σ→List av} {μ:σ→Nat} {x:σ} (x':σ) (hI:I x') (hlt:μ x' < μ x) (hs:je (L x') l) (hm:∀ w,Mem w own ro→Mem w (O x') (Rr x')) :
    S (Exit.then (fun a w=>∃ x',I x'∧μ x' < μ x∧FH n (L x') a∧Mem w (O x') (Rr x')) Q .normal) n l own ro :=
  fun a w ha hw=>⟨x',hI,hlt,ha.sub hs,hm w hw⟩
theorem cO {σ:Type} {x y:Code} (I:σ→Prop) (L:σ→List (Nat×Value)) (O:σ→List (Nat×Obj)) (Rr:σ→List av)
    (h1:W P x (Exit.then (fun a w=>∃ x',I x'∧FH n (L x') a∧Mem w (O x') (Rr x')) Q) n l own ro) (h2:∀ x',I x'→W P y Q n (L x') (O x') (Rr x')):W P (.seq x y) Q n l own ro :=
  fun a w ha hw=>wp_seq (wp_mono (h1 a w ha hw) fun e a' w' hq=>by
    cases e with
    | normal=>obtain ⟨x',h0,h3,h4⟩:=hq; exact h2 x' h0 a' w' h3 h4
    | exit _=>exact hq
    | goto _=>exact hq
    | ret=>exact hq
    | panic _=>exact hq
    | outgrown=>exact hq)
theorem cv {σ:Type} {I:σ→Prop} {L:σ→List (Nat×Value)} {O:σ→List (Nat×Obj)} {Rr:σ→List av} (x':σ) (hI:I x') (hs:je (L x') l) (hm:∀ w,Mem w own ro→Mem w (O x') (Rr x')) :
    S (Exit.then (fun a w=>∃ x',I x'∧FH n (L x') a∧Mem w (O x') (Rr x')) Q .normal) n l own ro :=
  fun a w ha hw=>⟨x',hI,ha.sub hs,hm w hw⟩
theorem aC {L':List (Nat×Value)} {O':List (Nat×Obj)} {R':List av} (hs:je L' l) (hm:∀ w,Mem w own ro→Mem w O' R'):∀ a w,FH n l a→Mem w own ro→FH n L' a∧Mem w O' R' :=
  fun a w ha hw=>⟨ha.sub hs,hm w hw⟩
theorem aw {t:Tmp} {v:Value} (hr:fn.results=#[.tmp t]) (hv:l.lookup t=some v) (h:∀ w',Mem w' own ro→R (.returned v) w'):S (bodyPost P fn R .ret) n l own ro:=by
  intro a w ha hw
  refine ⟨ha.df,v,?_,h w hw⟩
  have:=ha.at_ t v hv
  rw [results_tmp hr]
  simp [Array.getD_eq_getD_getElem?,this]
theorem s7 {t u:Tmp} {v v':Value} (hr:fn.results=#[.tmp t,.tmp u]) (hv:l.lookup t=some v) (hv':l.lookup u=some v') (h:∀ w',Mem w' own ro→R (.returned (.tuple #[v,v'])) w'):S (bodyPost P fn R .ret) n l own ro:=by
  intro a w ha hw
  refine ⟨ha.df,_,?_,h w hw⟩
  rw [results_tmp2 hr]
  simp [Array.getD_eq_getD_getElem?,ha.at_ t v hv,ha.at_ u v' hv']
theorem dJ {t u s:Tmp} {v v' v'':Value} (hr:fn.results=#[.tmp t,.tmp u,.tmp s]) (hv:l.lookup t=some v) (hv':l.lookup u=some v') (hv'':l.lookup s=some v'') (h:∀ w',Mem w' own ro→R (.returned (.tuple #[v,v',v''])) w'):S (bodyPost P fn R .ret) n l own ro:=by
  intro a w ha hw
  refine ⟨ha.df,_,?_,h w hw⟩
  rw [results_tmp3 hr]
  simp [Array.getD_eq_getD_getElem?,ha.at_ t v hv,ha.at_ u v' hv',ha.at_ s v'' hv'']
theorem tw (hr:fn.results=#[]) (h:∀ w',Mem w' own ro→R (.returned (.tuple #[])) w'):S (bodyPost P fn R .normal) n l own ro:=by
  intro a w ha hw
  exact ⟨ha.df,_,results_none hr _ _ _,h w hw⟩
theorem tz {t:Tmp} {ty:TypeId} {td:TypeDesc} {b:Nat} {cs:Array Value} {e:TypeId} {fz:Nat×Nat} (hr:fn.results=#[.cell t ty]) (hv:l.lookup t=some (.pointer (some ⟨b,0,none⟩))) (hb:(b,Obj.cells cs e fz)∈own)
    (ht:P.underlying ty=some td) (hd:jD td=true) (hs:(P.info? ty).map (·.size)=some cs.size) (h:∀ w',Mem w' own ro→R (.returned (.agg cs)) w'):S (bodyPost P fn R .ret) n l own ro:=by
  intro a w ha hw
  refine ⟨ha.df,_,?_,h w hw⟩
  exact results_cell_row hr a.tmps w b e cs fz td (by simp [Array.getD_eq_getD_getElem?,ha.at_ t _ hv]) (hw.own_at _ hb) ht (by cases td <;> simp_all [jD]) hs
end
end Go.PK

namespace Go.PK
open Go Go.RowKit
structure Ty (α:Type) where
  size:Nat
  rd:(Nat→Prop)→World→List Value→α→Prop
  len:∀ {D w cs x},rd D w cs x→cs.length=size
  keep:∀ {D D':Nat→Prop} {w w' cs x},rd D w cs x→(∀ k,D k→k < w.heap.size→D' k∧w'.heap[k]?=w.heap[k]?)→rd D' w' cs x
def aV (D D':Nat→Prop) (w w':World):Prop:=∀ k,D k→k < w.heap.size→D' k∧w'.heap[k]?=w.heap[k]?
theorem aV.later {D:Nat→Prop} {w w':World} (h:Later w w'):aV D D w w':=fun k hk hlt=>⟨hk,h.block k hlt⟩
theorem aV.all {D:Nat→Prop} {w w':World} (h:Later w w'):aV D (fun _=>True) w w':=fun k hk hlt=>⟨trivial,h.block k hlt⟩
theorem aV.snap {own:List (Nat×Obj)} {ro:List av} {w:World} {s:av} {D':Nat→Prop} (h:Mem w own ro) (hs:s∈ro) (hd:∀ k,s.2 k→k < s.1.heap.size→D' k):aV s.2 D' s.1 w :=
  fun k hk hlt=>⟨hd k hk hlt,h.ro_at s hs k hk hlt⟩
def ab {α:Type} (T:Ty α) (D:Nat→Prop) (w:World) (v:Value) (xs:List α):Prop :=
  ∃ A c,v=.slice A xs.length c∧xs.length≤c∧xs.length≤9223372036854775807 ∧
    (0 < xs.length→∃ b off,A=some ⟨b,off,none⟩∧D b∧b < w.heap.size ∧
      ∀ j (hj:j < xs.length),∃ cs,(∀ i (hi:i < cs.length),w.cell? ⟨b,off+j*T.size+i,none⟩=some cs[i])∧T.rd D w cs xs[j])
theorem gp {w w':World} {b off:Nat} (h:w'.heap[b]?=w.heap[b]?):w'.cell? ⟨b,off,none⟩=w.cell? ⟨b,off,none⟩:=World.cell?_of_block (w:=w) h
theorem ab.keep {α:Type} {T:Ty α} {D D':Nat→Prop} {w w':World} {v:Value} {xs:List α} (h:ab T D w v xs) (hk:aV D D' w w'):ab T D' w' v xs:=by
  obtain ⟨A,c,hv,h1,h2,h3⟩:=h
  refine ⟨A,c,hv,h1,h2,fun hl=>?_⟩
  obtain ⟨b,off,hA,hD,hb,hc⟩:=h3 hl
  obtain ⟨hD',hblk⟩:=hk b hD hb
  refine ⟨b,off,hA,hD',?_,fun j hj=>?_⟩
  · obtain ⟨cs,h4,h5⟩:=hc 0 hl
    have hh:∃ o,w.heap[b]?=some o:=⟨_,Array.getElem?_eq_getElem hb⟩
    obtain ⟨o,ho⟩:=hh
    exact dS (hblk.trans ho)
  · obtain ⟨cs,h4,h5⟩:=hc j hj
    exact ⟨cs,fun i hi=>(gp hblk).trans (h4 i hi),T.keep h5 hk⟩
theorem ab.take {α:Type} {T:Ty α} {D:Nat→Prop} {w:World} {A:Option Addr} {c:Nat} {xs:List α} (j:Nat) (hj:j≤xs.length) (h:ab T D w (.slice A xs.length c) xs):ab T D w (.slice A j c) (xs.take j):=by
  obtain ⟨A',c',hv,h1,h2,h3⟩:=h
  injection hv with e1 e2 e3
  subst e1 e3
  have hl:(xs.take j).length=j:=by simp; omega
  refine ⟨A,c,by rw [hl],by omega,by omega,fun h0=>?_⟩
  rw [hl] at h0
  obtain ⟨b,off,hA,hD,hb,hc⟩:=h3 (by omega)
  refine ⟨b,off,hA,hD,hb,fun i hi=>?_⟩
  rw [hl] at hi
  obtain ⟨cs,h4,h5⟩:=hc i (by omega)
  exact ⟨cs,h4,by rw [List.getElem_take]; exact h5⟩
def iD (s:ByteArray):Prop:=s.size≤9223372036854775807
def aX:Ty ByteArray where
  size:=1
  rd:=fun _ _ cs x=>cs=[.string x]∧iD x
  len:=fun h=>by rw [h.1]; rfl
  keep:=fun h _=>h
def aP {α:Type} (T:Ty α):Ty (List α) where
  size:=1
  rd:=fun D w cs xs=>∃ v,cs=[v]∧ab T D w v xs
  len:=fun ⟨v,h,_⟩=>by rw [h]; rfl
  keep:=fun ⟨v,h,h2⟩ hk=>⟨v,h,h2.keep hk⟩
structure Sb where
  code:UInt8
  text:ByteArray
deriving DecidableEq
def tySb:Ty Sb where
  size:=2
  rd:=fun _ _ cs x=>cs=[.int .u8 x.code.toNat,.string x.text]∧iD x.text
  len:=fun h=>by rw [h.1]; rfl
  keep:=fun h _=>h
structure Fl where
  tag:ByteArray
  ind:ByteArray
  data:ByteArray
  subs:List Sb
deriving DecidableEq
def Fl.ok (f:Fl):Prop:=iD f.tag∧iD f.ind∧iD f.data
def tyFl:Ty Fl where
  size:=4
  rd:=fun D w cs x=>∃ v,cs=[.string x.tag,.string x.ind,.string x.data,v]∧x.ok∧ab tySb D w v x.subs
  len:=fun ⟨v,h,_⟩=>by rw [h]; rfl
  keep:=fun ⟨v,h,h2,h3⟩ hk=>⟨v,h,h2,h3.keep hk⟩
structure Rl where
  tag:ByteArray
  must:Bool
  once:Bool
  i0:ByteArray
  i1:ByteArray
  codes:ByteArray
  single:ByteArray
deriving DecidableEq
def Rl.ok (r:Rl):Prop:=iD r.tag∧iD r.i0∧iD r.i1∧iD r.codes∧iD r.single
def Rl.cells (r:Rl):List Value:=[.string r.tag,.bool r.must,.bool r.once,.string r.i0,.string r.i1,.string r.codes,.string r.single]
end Go.PK

namespace Go.PK
open Go Go.RowKit
theorem wA (a m:Int) (h:0 < m):-m < a.tmod m∧a.tmod m < m :=
  ⟨by have:=Int.lt_tmod_of_pos a h; omega,Int.tmod_lt_of_pos a h⟩
theorem tmod_mod (a m:Int) (h:0 < m):(a.tmod m+m).tmod m=a%m:=by
  have h1:=wA a m h
  rw [Int.tmod_eq_emod_of_nonneg (by omega),Int.add_emod_right]
  have h2:=Int.mul_tdiv_add_tmod a m
  conv=>rhs; rw [← h2]
  rw [Int.mul_add_emod_self_left]
def pre (s p:ByteArray):Bool:=decide (p.size≤s.size∧s.extract 0 p.size=p)
theorem nQ {t:ByteArray} {a b j:Nat} (h:a+j < b) (hb:b≤t.size):ad (t.extract a b) j=ad t (a+j):=by
  have h1:j < (t.extract a b).size:=by rw [ByteArray.size_extract]; omega
  rw [mg h1,mg (by omega),ByteArray.getElem_extract]
def okM (p t:ByteArray) (k:Nat):Prop:=ad t k=ad p k∨ad p k=120∧48≤(ad t k).toNat∧(ad t k).toNat≤57
instance (p t:ByteArray) (k:Nat):Decidable (okM p t k):=by unfold okM; infer_instance
def mtc (p t:ByteArray):Bool:=decide (p.size=t.size∧∀ k,k < t.size→okM p t k)
def zP {α:Type} (p:α→Bool) (xs:List α):Int:=match xs.findIdx? p with | some i=>(i:Nat) | none=>-1
theorem zI {α:Type} {p:α→Bool} {xs:List α} {k:Nat} (hk:k < xs.length) (h:p xs[k]=true) (hn:∀ j (hj:j < xs.length),j < k→p xs[j]=false):zP p xs=k:=by
  unfold zP
  have:xs.findIdx? p=some k:=by
    rw [List.findIdx?_eq_some_iff_getElem]
    exact ⟨hk,h,fun j hj=>by rw [hn j (by omega) hj]; exact Bool.false_ne_true⟩
  rw [this]
theorem j8 {α:Type} {p:α→Bool} {xs:List α} (hn:∀ j (hj:j < xs.length),p xs[j]=false):zP p xs=-1:=by
  unfold zP
  have:xs.findIdx? p=none:=by
    rw [List.findIdx?_eq_none_iff]
    intro x hx
    obtain ⟨j,hj,rfl⟩:=List.mem_iff_getElem.1 hx
    exact hn j hj
  rw [this]
theorem wB {α:Type} (p:α→Bool) (xs:List α):(0≤zP p xs)↔xs.any p=true:=by
  unfold zP
  cases h:xs.findIdx? p with
  | none =>
    simp only [List.any_eq_true]
    rw [List.findIdx?_eq_none_iff] at h
    constructor
    · intro h0; omega
    · rintro ⟨x,hx,hp⟩; rw [h x hx] at hp; cases hp
  | some i =>
    simp only [List.any_eq_true]
    obtain ⟨hi,hp,_⟩:=List.findIdx?_eq_some_iff_getElem.1 h
    exact ⟨fun _=>⟨_,List.getElem_mem hi,hp⟩,fun _=>by omega⟩
theorem mi {n k:Nat} {p:(j:Nat)→j < n→Prop} (h:∀ j (hj:j < n),j < k→p j hj) (hk:∀ hj:k < n,p k hj):∀ j (hj:j < n),j < k+1→p j hj:=fun j hj h1=>by
  rcases Nat.lt_succ_iff_lt_or_eq.1 h1 with h2 | rfl
  · exact h j hj h2
  · exact hk hj
def plC (v:Value) (n:Int) (r:Rl):List Value:=[v,.int .i64 n,.string r.tag,.bool r.must,.bool r.once,.string r.i0,.string r.i1,.string r.codes,.string r.single]
def flC (f:Fl) (B:Option Addr) (c:Nat):List Value:=[.string f.tag,.string f.ind,.string f.data,.slice B f.subs.length c]
structure FAt (w:World) (v:Value) (n:Nat) (f:Fl) (B:Option Addr) (c:Nat):Prop where
  ex:∃ b off len cap,v=.slice (some ⟨b,off,none⟩) len cap∧n < len∧len≤9223372036854775807∧∀ i (hi:i < (flC f B c).length),w.cell? ⟨b,off+n*4+i,none⟩=some (flC f B c)[i]
theorem FAt.later {w w':World} {v:Value} {n:Nat} {f:Fl} {B:Option Addr} {c:Nat} (h:FAt w v n f B c) (hl:Later w w'):FAt w' v n f B c:=by
  obtain ⟨b,off,len,cap,h1,h2,h3,h4⟩:=h.ex
  exact ⟨b,off,len,cap,h1,h2,h3,fun i hi=>(hl.cell (p:=⟨b,off+n*4+i,none⟩) (eu (h4 i hi))).trans (h4 i hi)⟩
def PAt (w:World) (q:Nat) (v:Value) (n:Int) (r:Rl):Prop:=∀ i (hi:i < (plC v n r).length),w.cell? ⟨q,i,none⟩=some (plC v n r)[i]
theorem PAt.later {w w':World} {q:Nat} {v:Value} {n:Int} {r:Rl} (h:PAt w q v n r) (hl:Later w w'):PAt w' q v n r:=fun i hi=>(hl.cell (p:=⟨q,i,none⟩) (eu (h i hi))).trans (h i hi)
end Go.PK

namespace Go.PK
open Go Go.RowKit
abbrev ak:=Option (Nat×List Value×Nat)
def jN (r:ak):Option Addr:=r.map fun x=>⟨x.1,0,none⟩
def tA (r:ak):Nat:=match r with | none=>0 | some x=>x.2.2
def au (r:ak) (n:Nat):Value:=.slice (jN r) n (tA r)
def aA (e:TypeId) (r:ak):List (Nat×Obj):=match r with | none=>[] | some x=>[(x.1,.cells x.2.1.toArray e (0,0))]
def ag (size:Nat) (r:ak) (n:Nat) (xs:List Value):Prop :=
  xs.length=n*size∧match r with | none=>n=0 | some x=>n≤x.2.2∧x.2.2≤maxLen∧x.2.1.length=x.2.2*size∧x.2.1.take (n*size)=xs
theorem bG {size:Nat}:ag size none 0 []:=⟨by simp,rfl⟩
theorem cE {size n b:Nat} {cs:List Value} (h:cs.length=n*size) (hm:n≤maxLen):ag size (some (b,cs,n)) n cs:=⟨h,Nat.le_refl _,hm,h,by rw [← h,List.take_length]⟩
theorem ag.cell {size:Nat} {r:ak} {n:Nat} {xs:List Value} (h:ag size r n xs) {j:Nat} (hj:j < xs.length):∃ b cs c,r=some (b,cs,c)∧cs[j]?=some xs[j]:=by
  obtain ⟨h1,h2⟩:=h
  cases r with
  | none=>simp only at h2; subst h2; simp at h1; subst h1; simp at hj
  | some x =>
    obtain ⟨b,cs,c⟩:=x
    obtain ⟨_,_,h3,h4⟩:=h2
    refine ⟨b,cs,c,rfl,?_⟩
    subst h4
    rw [List.getElem_take,List.getElem?_eq_getElem]
section
variable {w w':World} {ro:List av}
theorem lB {own l1 l2:List (Nat×Obj)} {e:TypeId} {size n:Nat} {r:ak} {xs:List Value} (hm:Mem w (l1++aA e r++l2) ro) (h:ag size r n xs) :
    w.ownsRow 0 e size (au r n) n xs:=by
  obtain ⟨h1,h2⟩:=h
  refine ⟨h1,?_⟩
  cases r with
  | none=>left; simp only at h2; subst h2; exact ⟨rfl,rfl⟩
  | some x =>
    obtain ⟨b,cs,c⟩:=x
    obtain ⟨h3,h4,h5,h6⟩:=h2
    exact .inr ⟨b,c,cs.toArray,rfl,Nat.zero_le _,hm.own_at (b,_) (by simp [aA]),h3,h4,by simpa using h5,by simpa using h6⟩
theorem Mem.append {l1 l2:List (Nat×Obj)} {e:TypeId} {size n n':Nat} {r:ak} {v':Value} {xs':List Value} (hm:Mem w (l1++aA e r++l2) ro) (h':w'.ownsRow 0 e size v' n' xs') (hg:w.grownBy w' (au r n).ownBlock)
    (hb:v'.ownBlock=(au r n).ownBlock∨v'.ownBlock=some w.heap.size):∃ r',v'=au r' n'∧ag size r' n' xs'∧Mem w' (l1++aA e r'++l2) ro:=by
  have hkeep:∀ k,k < w.heap.size→(∀ b cs c,r=some (b,cs,c)→k≠b)→w'.heap[k]?=w.heap[k]?:=fun k hk hne=>hg.block k hk (by
    cases r with
    | none=>simp [au,jN,Value.ownBlock]
    | some x=>obtain ⟨b,cs,c⟩:=x; simpa [au,jN,Value.ownBlock] using hne b cs c rfl)
  -- the blocks beside the row
  have hside:∀ p,p∈l1∨p∈l2→p.1 < w.heap.size∧w.heap[p.1]?=some p.2∧∀ b cs c,r=some (b,cs,c)→p.1≠b:=by
    intro p hp
    have hmem:p∈l1++aA e r++l2:=by
      rcases hp with hp | hp <;> simp [hp]
    refine ⟨hm.lt hmem,hm.own_at p hmem,fun b cs c hr he=>?_⟩
    subst hr
    have hnd:=hm.own_nd
    simp only [aA,List.map_append,List.map_cons,List.map_nil] at hnd
    rw [List.nodup_append,List.nodup_append] at hnd
    obtain ⟨⟨_,_,h3⟩,_,h4⟩:=hnd
    rcases hp with hp | hp
    · exact h3 p.1 (List.mem_map_of_mem hp) b (by simp) he
    · exact h4 b (by simp) p.1 (List.mem_map_of_mem hp) he.symm
  have hro_st:∀ s∈ro,w'.os=s.1.os∧w'.tape=s.1.tape∧w'.output=s.1.output∧s.1.heap.size≤w'.heap.size:=fun s hs=>by
    obtain ⟨a1,a2,a3,a4⟩:=hm.ro_st s hs
    exact ⟨hg.os.trans a1,hg.tape.trans a2,hg.output.trans a3,Nat.le_trans a4 hg.size⟩
  have hro_at:∀ s∈ro,∀ k,s.2 k→k < s.1.heap.size→w'.heap[k]?=s.1.heap[k]?:=fun s hs k hk hlt=>by
    refine (hkeep k (Nat.lt_of_lt_of_le hlt (hm.ro_st s hs).2.2.2) fun b cs c hr he=>?_).trans (hm.ro_at s hs k hk hlt)
    subst hr
    have:=hm.apart (b,Obj.cells cs.toArray e (0,0)) (by simp [aA]) s hs (by rw [← he]; exact hk)
    simp only at this
    omega
  have hmid:∀ b,((∃ cs c,r=some (b,cs,c))∨b=w.heap.size)→∀ s∈ro,s.2 b→s.1.heap.size≤b:=fun b hb s hs hd=>by
    rcases hb with ⟨cs,c,rfl⟩ | rfl
    · exact hm.apart (b,Obj.cells cs.toArray e (0,0)) (by simp [aA]) s hs hd
    · exact (hm.ro_st s hs).2.2.2
  obtain ⟨h1,h2⟩:=h'
  rcases h2 with ⟨rfl,rfl⟩ | ⟨g,cap,cur,rfl,_,hh,hnc,hcm,hcs,htk⟩
  · refine ⟨none,rfl,⟨h1,rfl⟩,?_,?_,hro_st,hro_at,?_⟩
    · intro p hp
      have hp':p∈l1∨p∈l2:=by simpa [aA] using hp
      obtain ⟨a1,a2,a3⟩:=hside p hp'
      exact (hkeep p.1 a1 a3).trans a2
    · have hnd:=hm.own_nd
      simp only [aA,List.append_nil]
      exact ((List.sublist_append_left l1 (aA e r)).append (List.Sublist.refl l2) |>.map _).nodup hnd
    · intro p hp s hs hd
      have hp':p∈l1∨p∈l2:=by simpa [aA] using hp
      exact hm.apart p (by rcases hp' with h | h <;> simp [h]) s hs hd
  · have hgb:(∃ cs c,r=some (g,cs,c))∨g=w.heap.size:=by
      rcases hb with hb | hb
      · cases r with
        | none=>simp [au,jN,Value.ownBlock] at hb
        | some x=>obtain ⟨b,cs,c⟩:=x; simp [au,jN,Value.ownBlock] at hb; subst hb; exact .inl ⟨cs,c,rfl⟩
      · simp [Value.ownBlock] at hb; exact .inr hb
    have hgne:∀ p,p∈l1∨p∈l2→p.1≠g:=fun p hp he=>by
      obtain ⟨a1,_,a3⟩:=hside p hp
      rcases hgb with ⟨cs,c,hr⟩ | hg'
      · exact a3 g cs c hr he
      · omega
    refine ⟨some (g,cur.toList,cap),by simp [au,jN,tA],⟨h1,hnc,hcm,by simpa using hcs,htk⟩,?_,?_,hro_st,hro_at,?_⟩
    · intro p hp
      simp only [aA,List.mem_append,List.mem_singleton] at hp
      rcases hp with (hp | rfl) | hp
      · obtain ⟨a1,a2,a3⟩:=hside p (.inl hp); exact (hkeep p.1 a1 a3).trans a2
      · simpa using hh
      · obtain ⟨a1,a2,a3⟩:=hside p (.inr hp); exact (hkeep p.1 a1 a3).trans a2
    · have hnd:=hm.own_nd
      simp only [List.map_append] at hnd
      rw [List.nodup_append,List.nodup_append] at hnd
      obtain ⟨⟨b1,_,_⟩,b2,b3⟩:=hnd
      simp only [aA,List.map_append,List.map_cons,List.map_nil]
      rw [List.nodup_append,List.nodup_append]
      refine ⟨⟨b1,by simp,fun x hx y hy=>?_⟩,b2,fun x hx y hy=>?_⟩
      · obtain ⟨p,hp,rfl⟩:=List.mem_map.1 hx
        simp only [List.mem_singleton] at hy
        subst hy
        exact hgne p (.inl hp)
      · simp only [List.mem_append,List.mem_singleton] at hx
        rcases hx with hx | rfl
        · exact b3 x (by simp [hx]) y hy
        · obtain ⟨p,hp,rfl⟩:=List.mem_map.1 hy
          exact fun e=>hgne p (.inr hp) e.symm
    · intro p hp s hs hd
      simp only [aA,List.mem_append,List.mem_singleton] at hp
      rcases hp with (hp | rfl) | hp
      · exact hm.apart p (by simp [hp]) s hs hd
      · exact hmid g hgb s hs hd
      · exact hm.apart p (by simp [hp]) s hs hd
end
section
variable {P:Program} {n:Nat} {l:List (Nat×Value)} {own:List (Nat×Obj)} {ro:List av} {lops:List Oper} {Q:Exit→Act→World→Prop} {K:Act→World→Prop}
  {rest:List (Option Bool×Nat)} {k:Option Bool} {i d:Nat} {op:Op} {ty:TypeId} {pos:String} {af:Array Edge} {x y:Operand} {t:TypeId}
theorem be {e:TypeId} {z:Value} {size bytes m len b2 o2 c2:Nat} {xs news:List Value} (l1:List (Nat×Obj)) {l2:List (Nat×Obj)} (r:ak) (ho:lops[i]?=some ⟨some d,.call ⟨.builtin .append,#[x,y],#[t,t]⟩,ty,pos,af,none⟩) (hd:decide (d < n)=true)
    (hx:ev l x=some (au r len)) (hy:ev l y=some (.slice (some ⟨b2,o2,none⟩) m c2)) (hown:own=l1++aA e r++l2) (hr:ag size r len xs)
    (ht:P.underlying t=some (.slice e)) (hi:(P.info? e).map (fun j=>(j.zero,j.size,j.bytes))=some (some z,size,bytes)) (hz:(decide (z.cells.size=size) && decide (0 < size))=true)
    (hl:news.length=m*size) (hat:∀ j (hj:j < news.length),At own ro b2 (o2+j) news[j]) (h1:news.all (fun u=>u.oneCell')=true)
    (hb1:len+m≤maxLen) (hb2:(len+m)*bytes≤140737488355328)
    (h:∀ r',ag size r' (len+m) (xs++news)→WX P lops.toArray Q K rest n ((d,au r' (len+m))::l) (l1++aA e r'++l2) ro):WX P lops.toArray Q K ((none,i)::rest) n l own ro:=by
  subst hown
  intro a w ha hw
  have hd':d < n:=of_decide_eq_true hd
  have hw1:=bU (lops:=lops) (n:=n) (l:=l) (o:=⟨some d,.call ⟨.builtin .append,#[x,y],#[t,t]⟩,ty,pos,af,none⟩) rfl a ha
  simp only [hJ,List.getElem?_toArray,ho]
  intro w' hl'
  rw [if_pos hw1]
  have hM:=hw.later hl'
  obtain ⟨inf,hi1,hi2⟩:=Option.map_eq_some_iff.1 hi
  simp only [Prod.mk.injEq] at hi2
  obtain ⟨hiz,his,hib⟩:=hi2
  simp only [Bool.and_eq_true,decide_eq_true_eq] at hz
  obtain ⟨v',w2,hrun,h2,h3,_,h5⟩:=run_append_own_at (P:=P) w' 0 t ty e inf z size bytes ht hi1 hiz his hib hz.1 hz.2 (au r len) len xs (lB (own:=[]) hM hr) ⟨b2,o2,none⟩ m c2 news hl
    (fun j u hu=>by
      obtain ⟨hj,rfl⟩:=List.getElem?_eq_some_iff.1 hu
      rw [jh]
      exact hat j hj w' hM) (by simpa using h1) hb1 hb2 (Nat.zero_le _)
  obtain ⟨r',rfl,hok,hM2⟩:=hM.append h2 h3 h5
  unfold Oper.wp execOp
  simp only [resolve,invoke,builtin,Sem.run_bind,Sem.run_pure,Result.andThen_ok,List.map_toArray,List.map_cons,List.map_nil,ha.eval hx,ha.eval hy,hrun]
  exact h r' hok _ _ (ha.put _ hd') hM2
end
end Go.PK

namespace Go.PK
open Go Go.RowKit Go.Maps
structure MapF (P:Program) (kt:TypeId) (es:Array MapEntry) (f:Value→Option Value):Prop where
  key:∀ (i:Nat) (e:MapEntry),es[i]?=some e→∃ kl,keyOf P kt e.key=some kl
  val:∀ (i:Nat) (e:MapEntry),es[i]?=some e→f e.key=some e.val
  has:∀ x v,f x=some v→∃ (i:Nat) (e:MapEntry),es[i]?=some e∧e.key=x∧e.val=v
  one:∀ (i j:Nat) (e e':MapEntry),es[i]?=some e→es[j]?=some e'→e.key=e'.key→i=j
noncomputable def ir (f:Value→Option Value) (x v:Value):Value→Option Value:=open Classical in fun y=>if y=x then some v else f y
theorem dP {f:Value→Option Value} {x v:Value}:ir f x v x=some v:=if_pos rfl
theorem gg {f:Value→Option Value} {x v y:Value} (h:y≠x):ir f x v y=f y:=if_neg h
theorem MapF.empty {P:Program} {kt:TypeId}:MapF P kt #[] (fun _=>none):=⟨by simp,by simp,by simp,by simp⟩
section
variable {P:Program} {kt:TypeId} {es:Array MapEntry} {f:Value→Option Value}
theorem MapF.find (h:MapF P kt es f) (K:Keyed P kt) {x:Value} {lx:Lit} (hx:keyOf P kt x=some lx) (w:World) :
    ((Instr.findKey kt x es.toList).run P w=.ok none w∧f x=none)∨∃ (j:Nat) (e:MapEntry),(Instr.findKey kt x es.toList).run P w=.ok (some (j,e.val)) w∧es[j]?=some e∧e.key=x∧f x=some e.val:=by
  rcases K.find w hx es.toList (fun e he=>by
    obtain ⟨i,hi⟩:=List.getElem?_of_mem he
    exact h.key i e (by simpa using hi)) with ⟨h1,h2⟩ | ⟨j,e,h1,h2,h3⟩
  · refine .inl ⟨h1,?_⟩
    cases hf:f x with
    | none=>rfl
    | some v =>
      obtain ⟨i,e,h3,h4,_⟩:=h.has x v hf
      exact absurd h4 (h2 e (by rw [← Array.getElem?_toList] at h3; exact List.mem_of_getElem? h3))
  · have h2':es[j]?=some e:=by simpa using h2
    exact .inr ⟨j,e,h1,h2',h3,h3▸h.val j e h2'⟩
theorem MapF.push (h:MapF P kt es f) {x v:Value} {lx:Lit} {born:Nat} (hx:keyOf P kt x=some lx) (hf:f x=none):MapF P kt (es.push ⟨x,v,born⟩) (ir f x v):=by
  have old:∀ (i:Nat) (e:MapEntry),es[i]?=some e→e.key≠x:=fun i e he hk=>by
    have:=h.val i e he
    rw [hk,hf] at this
    cases this
  have cases':∀ (i:Nat) (e:MapEntry),(es.push ⟨x,v,born⟩)[i]?=some e→(es[i]?=some e∧i < es.size)∨(i=es.size∧e=⟨x,v,born⟩):=fun i e he=>by
    rw [Array.getElem?_push] at he
    split at he
    · cases he; exact .inr ⟨‹_›,rfl⟩
    · refine .inl ⟨he,?_⟩
      exact (Array.getElem?_eq_some_iff.1 he).1
  refine ⟨fun i e he=>?_,fun i e he=>?_,fun y u hy=>?_,fun i j e e' he he' hk=>?_⟩
  · rcases cases' i e he with ⟨h1,_⟩ | ⟨_,rfl⟩
    · exact h.key i e h1
    · exact ⟨_,hx⟩
  · rcases cases' i e he with ⟨h1,_⟩ | ⟨_,rfl⟩
    · rw [gg (old i e h1)]; exact h.val i e h1
    · exact dP
  · by_cases hyx:y=x
    · subst hyx
      rw [dP] at hy
      cases hy
      exact ⟨es.size,_,by rw [Array.getElem?_push,if_pos rfl],rfl,rfl⟩
    · rw [gg hyx] at hy
      obtain ⟨i,e,h1,h2,h3⟩:=h.has y u hy
      have hi:=(Array.getElem?_eq_some_iff.1 h1).1
      exact ⟨i,e,by rw [Array.getElem?_push,if_neg (by omega)]; exact h1,h2,h3⟩
  · rcases cases' i e he with ⟨h1,_⟩ | ⟨hi,rfl⟩ <;> rcases cases' j e' he' with ⟨h2,_⟩ | ⟨hj,rfl⟩
    · exact h.one i j e e' h1 h2 hk
    · exact absurd hk (old i e h1)
    · exact absurd hk.symm (old j e' h2)
    · omega
theorem MapF.put (h:MapF P kt es f) {x v:Value} {lx:Lit} {j:Nat} {e0:MapEntry} (hx:keyOf P kt x=some lx) (h0:es[j]?=some e0) (hk0:e0.key=x) :
    MapF P kt (es.modify j fun e=>{ e with key:=x,val:=v }) (ir f x v):=by
  have cases':∀ (i:Nat) (e:MapEntry),(es.modify j fun e=>{ e with key:=x,val:=v })[i]?=some e→(es[i]?=some e∧i≠j)∨(i=j∧e.key=x∧e.val=v):=fun i e he=>by
    rw [Array.getElem?_modify] at he
    split at he
    · subst_vars
      rw [h0] at he
      cases he
      exact .inr ⟨rfl,rfl,rfl⟩
    · exact .inl ⟨he,fun e=>by simp_all⟩
  have old:∀ (i:Nat) (e:MapEntry),es[i]?=some e→i≠j→e.key≠x:=fun i e he hne hk=>hne (h.one i j e e0 he h0 (hk.trans hk0.symm))
  refine ⟨fun i e he=>?_,fun i e he=>?_,fun y u hy=>?_,fun i j' e e' he he' hk=>?_⟩
  · rcases cases' i e he with ⟨h1,_⟩ | ⟨_,h2,_⟩
    · exact h.key i e h1
    · exact ⟨_,h2▸hx⟩
  · rcases cases' i e he with ⟨h1,h2⟩ | ⟨_,h2,h3⟩
    · rw [gg (old i e h1 h2)]; exact h.val i e h1
    · rw [h2,h3]; exact dP
  · by_cases hyx:y=x
    · subst hyx
      rw [dP] at hy
      cases hy
      exact ⟨j,{ e0 with key:=y,val:=v },by rw [Array.getElem?_modify,if_pos rfl,h0]; rfl,rfl,rfl⟩
    · rw [gg hyx] at hy
      obtain ⟨i,e,h1,h2,h3⟩:=h.has y u hy
      have hne:j≠i:=fun e1=>by subst e1; rw [h0] at h1; cases h1; exact hyx (h2.symm.trans hk0)
      exact ⟨i,e,by rw [Array.getElem?_modify,if_neg hne]; exact h1,h2,h3⟩
  · rcases cases' i e he with ⟨h1,h2⟩ | ⟨hi,h2,_⟩ <;> rcases cases' j' e' he' with ⟨h3,h4⟩ | ⟨hj,h4,_⟩
    · exact h.one i j' e e' h1 h3 hk
    · exact absurd (hk.trans h4) (old i e h1 h2)
    · exact absurd (hk.symm.trans h2) (old j' e' h3 h4)
    · omega
end
theorem gy {w:World} {g:Nat} {o o':Obj} (h:w.heap[g]?=some o):Turned w { w with heap:=w.heap.setIfInBounds g o' } g o' where
  os:=rfl
  tape:=rfl
  output:=rfl
  size:=by simp
  at_:=by
    show (w.heap.setIfInBounds g o')[g]?=some o'
    rw [Array.getElem?_setIfInBounds_self_of_lt (dS h)]
  other:=fun k hk=>by
    show (w.heap.setIfInBounds g o')[k]?=w.heap[k]?
    rw [Array.getElem?_setIfInBounds_ne (fun e=>hk e.symm)]
section
variable {P:Program} {n:Nat} {l:List (Nat×Value)} {own:List (Nat×Obj)} {ro:List av} {lops:List Oper} {Q:Exit→Act→World→Prop} {K:Act→World→Prop}
  {rest:List (Option Bool×Nat)} {k:Option Bool} {i d:Nat} {op:Op} {ty:TypeId} {pos:String} {af:Array Edge} {x y m:Operand} {t kt e:TypeId} {b:Nat} {es:Array MapEntry} {clock:Nat} {f:Value→Option Value}
theorem mj (ho:lops[i]?=some ⟨some d,.makeMap t none,ty,pos,af,none⟩) (hk:(k == some true)=false) (hd:decide (d < n)=true)
    (h:∀ b,WX P lops.toArray Q K rest n ((d,.map (some b))::l) ((b,.map #[] 0)::own) ro):WX P lops.toArray Q K ((k,i)::rest) n l own ro :=
  nO (f:=fun b=>.map (some b)) ho (bU rfl) rfl hk hd (fun a w ha hw=>by simp [execOp,Instr.makeMap]) h
theorem iG {u v z:Value} {lx:Lit} (ht:P.underlying t=some (.map kt e)) (KK:Keyed P kt) (hz:(P.info? e).bind (·.zero)=some z) (hm:ev l m=some (.map (some b))) (hx:ev l x=some u) (hkey:keyOf P kt u=some lx)
    (hb:(b,Obj.map es clock)∈own) (hf:MapF P kt es f) (hv:(f u).getD z=v):cx P n l own ro (.lookup t m x false) ty v:=by
  intro A w o ha hw ho _
  have hg:=hw.own_at _ hb
  subst hv
  rcases hf.find KK hkey w with ⟨h1,h2⟩ | ⟨j,e,h1,h2,h3,h4⟩
  · simp [execOp,ho,ha.eval hm,ha.eval hx,Instr.lookup,run_underlying ht,MapKept.run_getObj_map hg,KK.check w _ hkey,h1,cy hz,h2,Result.andThen]
  · simp [execOp,ho,ha.eval hm,ha.eval hx,Instr.lookup,run_underlying ht,MapKept.run_getObj_map hg,KK.check w _ hkey,h1,h4,Result.andThen]
theorem mT {u v:Value} {lx:Lit} (l1:List (Nat×Obj)) {l2:List (Nat×Obj)} (ho:lops[i]?=some ⟨none,.mapUpdate t m x y,ty,pos,af,none⟩) (hm:ev l m=some (.map (some b))) (hx:ev l x=some u) (hy:ev l y=some v)
    (ht:P.underlying t=some (.map kt e)) (KK:Keyed P kt) (hkey:keyOf P kt u=some lx) (hown:own=l1++(b,.map es clock)::l2) (hf:MapF P kt es f)
    (h:∀ es' clock',MapF P kt es' (ir f u v)→WX P lops.toArray Q K rest n l (l1++(b,.map es' clock')::l2) ro):WX P lops.toArray Q K ((none,i)::rest) n l own ro:=by
  subst hown
  intro a w ha hw
  have hw1:=bU (lops:=lops) (n:=n) (l:=l) (o:=⟨none,.mapUpdate t m x y,ty,pos,af,none⟩) rfl a ha
  simp only [hJ,List.getElem?_toArray,ho]
  intro w' hl
  rw [if_pos hw1]
  have hM:=hw.later hl
  have hg:w'.heap[b]?=some (.map es clock):=hM.own_at (b,_) (by simp)
  have hrun:∃ es' clock',MapF P kt es' (ir f u v)∧(Instr.mapUpdate t (.map (some b)) u v).run P w'=.ok () { w' with heap:=w'.heap.setIfInBounds b (.map es' clock') }:=by
    rcases hf.find KK hkey w' with ⟨h1,h2⟩ | ⟨j,e0,h1,h2,h3,h4⟩
    · exact ⟨_,clock+1,hf.push (v:=v) (born:=clock) hkey h2,by simp [Instr.mapUpdate,run_underlying ht,MapKept.run_getObj_map hg,KK.check w' false hkey,h1,MapKept.run_setObj_map _ hg,Result.andThen]⟩
    · refine ⟨_,clock,hf.put (v:=v) hkey h2 h3,?_⟩
      have hs:(Instr.keyThatStays (((es[j]?).map (·.key)).getD u) u).run P w'=.ok u w':=by
        rw [h2]; simp only [Option.map_some,Option.getD_some,h3]; exact KK.stays w' hkey
      simp only [Instr.mapUpdate,Sem.run_bind,run_underlying ht,Result.andThen_ok,MapKept.run_getObj_map hg,KK.check w' false hkey,h1,hs,MapKept.run_setObj_map _ hg]
  obtain ⟨es',clock',hf',hr⟩:=hrun
  unfold Oper.wp
  have hr2:(execOp a.eval ⟨none,.mapUpdate t m x y,ty,pos,af,none⟩).run P w'=.ok .skip { w' with heap:=w'.heap.setIfInBounds b (.map es' clock') }:=by
    simp only [execOp,ha.eval hm,ha.eval hx,ha.eval hy,Sem.run_bind,hr,Result.andThen_ok,Sem.run_pure]
  rw [hr2]
  show hJ P lops.toArray Q K rest (a.put none undef) _
  exact h es' clock' hf' a _ ha (hM.turn (gy hg))
end
theorem ay {P:Program} {n:Nat} {own:List (Nat×Obj)} {ro:List av} {fn:Func} {R:Ending→World→Prop} {f:FuncId} {c:Code} {vs:List Value} {w:World} (hm:Mem w own ro) (hf:P.funcs[f]?=some fn) (hb:fn.body=some c) (hn:fn.ntmps=n) (hv:decide (vs.length≤n)=true)
    (h:W P c (bodyPost P fn R) n (nP 0 vs) own ro):Calls P f vs.toArray w R:=by
  have hv':=of_decide_eq_true hv
  refine calls_of_wp hf hb (h _ w ⟨by simp [hn]; omega,rfl,fun s v hs=>?_⟩ hm)
  obtain ⟨_,h2⟩:=ge _ _ _ _ hs
  simp only [Nat.sub_zero] at h2
  have hlt:s < vs.length:=(List.getElem?_eq_some_iff.1 h2).1
  show (vs.toArray++_)[s]?=some v
  rw [Array.getElem?_append_left (by simpa using hlt)]
  simpa using h2
section
variable {P:Program} {n:Nat} {l:List (Nat×Value)} {own:List (Nat×Obj)} {ro:List av} {lops:List Oper} {Q:Exit→Act→World→Prop} {K:Act→World→Prop}
  {rest:List (Option Bool×Nat)} {k:Option Bool} {i d:Nat} {ty:TypeId} {pos:String} {af:Array Edge}
theorem rz {τ:Type} {f:FuncId} {fn:Func} {xs:Array Operand} {tys:Array TypeId} {c:Operand} {vs:List Value} {fst cap:Array Value} {v:Value} (R:τ→Prop) (O:τ→List (Nat×Obj)) (ho:lops[i]?=some ⟨some d,.call ⟨.value c,xs,tys⟩,ty,pos,af,none⟩) (hd:decide (d < n)=true)
    (hcal:ev l c=some (.func (.func f) fst cap)) (hf:P.funcs[f]?=some fn) (hbody:(!(fn.name == "runtime.NumGoroutine") && fn.body.isSome)=true) (hx:lw l xs.toList=some vs)
    (hc:∀ w,Mem w own ro→Calls P f (fst++vs.toArray++cap) w fun e w'=>e=.returned v∧∃ x,R x∧Mem w' (O x) ro)
    (h:∀ x,R x→WX P lops.toArray Q K rest n ((d,v)::l) (O x) ro):WX P lops.toArray Q K ((none,i)::rest) n l own ro:=by
  intro a w ha hw
  have hd':d < n:=of_decide_eq_true hd
  have hw1:=bU (lops:=lops) (n:=n) (l:=l) (o:=⟨some d,.call ⟨.value c,xs,tys⟩,ty,pos,af,none⟩) rfl a ha
  simp only [hJ,List.getElem?_toArray,ho]
  intro w' hl
  rw [if_pos hw1]
  unfold Oper.wp
  rw [dO rfl ha hcal hf hbody hx]
  refine Calls.mono (hc w' (hw.later hl)) fun e w2 he=>?_
  obtain ⟨rfl,x,hr,hm⟩:=he
  exact h x hr _ w2 (ha.put v hd') hm
end
end Go.PK

namespace Go.PK
open Go Go.RowKit
def dQ:Value→List Value
  | .agg cs=>cs.toList
  | v=>[v]
theorem gq (v:Value):v.cells.toList=dQ v:=by cases v <;> rfl
theorem kN (v:Value):v.cells.size=(dQ v).length:=by rw [← gq]; simp
def nR:List Value→Nat→List Value→List Value
  | [],_,_=>[]
  | c::cs,0,[]=>c::cs
  | _::cs,0,v::vs=>v::nR cs 0 vs
  | c::cs,n+1,vs=>c::nR cs n vs
theorem tB:∀ (cs:List Value) (n:Nat),nR cs n []=cs
  | [],n=>by cases n <;> rfl
  | c::cs,0=>rfl
  | c::cs,n+1=>by show c::nR cs n []=c::cs; rw [tB cs n]
theorem qf (v:Value) (vs:List Value):∀ (cs:List Value) (n:Nat),nR cs n (v::vs)=nR (cs.set n v) (n+1) vs
  | [],n=>by cases n <;> rfl
  | c::cs,0=>rfl
  | c::cs,n+1=>by show c::nR cs n (v::vs)=c::nR (cs.set n v) (n+1) vs; rw [qf v vs cs n]
theorem qg (off:Nat):∀ (vs:List Value) (s:Nat) (cells:Array Value),(vs.zipIdx s).foldl (fun cs x=>cs.setIfInBounds (off+x.2) x.1) cells=(nR cells.toList (off+s) vs).toArray
  | [],s,cells=>by simp [tB]
  | v::vs,s,cells=>by
    rw [List.zipIdx_cons,List.foldl_cons,qg off vs (s+1),qf]
    simp [Nat.add_assoc]
def nS (pl:Nat→Option (Nat×Nat)):List Value→List (Nat×Value)→Option (List Value)
  | cells,[]=>some cells
  | cells,(i,v)::r=>match pl i with
    | none=>none
    | some (off,size)=>match Nat.beq (dQ v).length size && Nat.ble (off+(dQ v).length) cells.length with
      | true=>nS pl (nR cells off (dQ v)) r
      | false=>none
theorem iH {pl:Nat→Option (Nat×Nat)}:∀ (vs:List (Nat×Value)) (cells cs:List Value),nS pl cells vs=some cs→Instr.fill pl cells.toArray vs=some cs.toArray
  | [],cells,cs,h=>by cases h; rfl
  | (i,v)::r,cells,cs,h=>by
    simp only [nS] at h
    unfold Instr.fill
    split at h
    · cases h
    · rename_i off size hp
      rw [hp]
      split at h
      · rename_i hb
        obtain ⟨h1,h2⟩:=Bool.and_eq_true_iff.1 hb
        have h1:=Nat.eq_of_beq_eq_true h1
        have h2:=Nat.le_of_ble_eq_true h2
        have hn:¬ ((decide (v.cells.size≠size) || decide (off+v.cells.size > cells.toArray.size))=true):=by
          rw [kN]; simp only [List.size_toArray,Bool.or_eq_true,decide_eq_true_eq]; omega
        dsimp only
        rw [if_neg hn]
        have:v.cells.zipIdx.foldl (fun cs (x:Value×Nat)=>cs.setIfInBounds (off+x.2) x.1) cells.toArray=(nR cells off (dQ v)).toArray:=by
          rw [← Array.foldl_toList,Array.toList_zipIdx,qg,gq]; simp
        have h3:=iH r _ cs h
        rw [← this] at h3
        exact h3
      · cases h
section
variable {P:Program} {n:Nat} {l:List (Nat×Value)} {own:List (Nat×Obj)} {ro:List av} {lops:List Oper} {Q:Exit→Act→World→Prop} {K:Act→World→Prop}
  {rest:List (Option Bool×Nat)} {k:Option Bool} {i d:Nat} {op:Op} {ty:TypeId} {pos:String} {af:Array Edge} {x y:Operand} {t:TypeId}
theorem nT {parts:List (Nat×Operand)} {vs:List (Nat×Value)} {z:Value} {cs:List Value} {N m:Nat} {e:TypeId} (ht:P.underlying t=some (.array N e)) (hz:(P.info? t).bind (·.zero)=some z)
    (hs:(P.info? e).map (·.size)=some m) (hx:evp l parts=some vs) (hf:nS (fun j=>some (j*m,m)) (dQ z) vs=some cs) :
    cx P n l own ro (.build t parts.toArray) ty (.agg cs.toArray):=by
  intro A w o ha hw ho _
  have hparts:(parts.toArray.map fun (i,x)=>(i,A.eval x)).toList=vs:=by
    rw [Array.toList_map]; exact ha.evps hx
  have hfill:=iH vs (dQ z) cs hf
  rw [← gq] at hfill
  simp only [Array.toArray_toList] at hfill
  simp only [execOp,ho,Instr.build,Sem.run_bind,cy hz,Result.andThen_ok,run_underlying ht,run_sizeOf hs,hparts,hfill,Sem.run_pure]
theorem x_mem {plan:List (Option Bool×Nat)} {own':List (Nat×Obj)} {ro':List av} (hm:∀ w,Mem w own ro→Mem w own' ro') (h:WX P lops.toArray Q K plan n l own' ro'):WX P lops.toArray Q K plan n l own ro :=
  fun a w ha hw=>h a w ha (hm w hw)
theorem dY {c:Code} {own':List (Nat×Obj)} {ro':List av} {Q:Exit→Act→World→Prop} (hm:∀ w,Mem w own ro→Mem w own' ro') (h:W P c Q n l own' ro'):W P c Q n l own ro :=
  fun a w ha hw=>h a w ha (hm w hw)
theorem aH {parts:List (Nat×Operand)} {vs:List (Nat×Value)} {fs:Array Field} {z:Value} {cs:List Value} {places:List (Nat×Nat)} (ht:P.underlying t=some (.struct fs)) (hz:(P.info? t).bind (·.zero)=some z)
    (hp:fs.toList.map (fun f=>((P.info? f.type).map fun j=>(f.offset,j.size)))=places.map some) (hx:evp l parts=some vs) (hf:nS (places[·]?) (dQ z) vs=some cs) :
    cx P n l own ro (.build t parts.toArray) ty (.agg cs.toArray):=by
  refine v_build (places:=places.toArray) ht hz (by simpa using hp) hx ?_
  have:=iH vs (dQ z) cs hf
  rw [← gq] at this
  simpa using this
theorem ac {parts:List (Nat×Operand)} {vs:List (Nat×Value)} {e:TypeId} {z:Value} {cs:List Value} {len m:Nat} (ho:lops[i]?=some ⟨some d,.buildSlice t len parts.toArray,ty,pos,af,none⟩) (hk:(k == some true)=false) (hd:decide (d < n)=true)
    (ht:P.underlying t=some (.slice e)) (hs:(P.info? e).map (·.size)=some m) (hz:(P.info? e).bind (·.zero)=some z) (hlen:(decide (len*m≤2 ^ 24) && decide (0 < len*m))=true) (hx:evp l parts=some vs)
    (hf:nS (fun j=>some (j*m,m)) ((List.range (len*m)).map (fun i=>(dQ z)[i%(dQ z).length]!)) vs=some cs)
    (h:∀ b,WX P lops.toArray Q K rest n ((d,.slice (some ⟨b,0,none⟩) len len)::l) ((b,.cells cs.toArray e)::own) ro):WX P lops.toArray Q K ((k,i)::rest) n l own ro:=by
  refine ry ho hk hd ht hs hz hlen hx (cs:=cs.toArray) ?_ h
  have h1:=iH vs _ cs hf
  have h2:((List.range (len*m)).map (fun i=>(dQ z)[i%(dQ z).length]!)).toArray=(Array.range (len*m)).map (z.cells[·%z.cells.size]!):=by
    apply Array.toList_inj.1
    simp only [Array.toList_map,Array.toList_range]
    refine List.map_congr_left fun j _=>?_
    rw [kN,← gq]
    simp [Array.getElem!_eq_getD,Array.getD_eq_getD_getElem?]
  rwa [h2] at h1
end
end Go.PK

namespace Go.PK
open Go Go.RowKit
def td:Nat→Bool | 0=>false | _=>true
def lC (rs:List Rl) (fs:List Fl) (k i:Nat) (mf:Value→Option Value):Prop :=
  ∀ j (hj:j < rs.length),(mf (.int .i64 (j:Nat))).getD (.bool false)=.bool ((fs.take (if j < i then k+1 else k)).any fun f=>mtc rs[j].tag f.tag)
theorem lC.init (rs:List Rl) (fs:List Fl):lC rs fs 0 0 (fun _=>none):=fun j hj=>by simp
theorem lC.next {rs:List Rl} {fs:List Fl} {k i:Nat} {mf:Value→Option Value} (h:lC rs fs k i mf) (hi:rs.length≤i):lC rs fs (k+1) 0 mf:=fun j hj=>by
  rw [h j hj,if_pos (by omega),if_neg (by omega)]
theorem lC.at {rs:List Rl} {fs:List Fl} {k i:Nat} {mf:Value→Option Value} (h:lC rs fs k i mf) (hi:i < rs.length):(mf (.int .i64 (i:Nat))).getD (.bool false)=.bool ((fs.take k).any fun f=>mtc rs[i].tag f.tag):=by
  rw [h i hi,if_neg (Nat.lt_irrefl i)]
theorem lC.last {rs:List Rl} {fs:List Fl} {mf:Value→Option Value} (h:lC rs fs fs.length 0 mf) {i:Nat} (hi:i < rs.length):(mf (.int .i64 (i:Nat))).getD (.bool false)=.bool (fs.any fun f=>mtc rs[i].tag f.tag):=by
  rw [h i hi,if_neg (Nat.not_lt_zero i),List.take_length]
end Go.PK

namespace Go.PK
open Go Go.RowKit
end Go.PK

namespace Go.PK
open Go
end Go.PK

namespace Go.PK
open Go Go.RowKit
theorem qh {m:Nat}:∀ (css:List (List Value)) (hf:∀ x∈css,x.length=m) (j:Nat) (hj:j < css.length) (i:Nat),i < m→css.flatten[j*m+i]?=(css[j])[i]?
  | [],_,j,hj,_,_=>by simp at hj
  | x::xs,hf,0,_,i,hi=>by
    rw [List.flatten_cons,List.getElem?_append_left (by rw [hf x (by simp)]; omega)]; simp
  | x::xs,hf,j+1,hj,i,hi=>by
    rw [List.flatten_cons,List.getElem?_append_right (by rw [hf x (by simp),Nat.add_mul]; omega),hf x (by simp),show (j+1)*m+i - m=j*m+i by rw [Nat.add_mul]; omega]
    exact qh xs (fun y hy=>hf y (by simp [hy])) j (by simpa using hj) i hi
def qi {α:Type} (T:Ty α) (D:Nat→Prop) (w:World):List (List Value)→List α→Prop
  | [],[]=>True
  | c::cs,x::xs=>T.rd D w c x∧qi T D w cs xs
  | _,_=>False
theorem qi.at {α:Type} {T:Ty α} {D:Nat→Prop} {w:World}:∀ {css:List (List Value)} {xs:List α},qi T D w css xs→css.length=xs.length∧∀ j (h1:j < css.length) (h2:j < xs.length),T.rd D w css[j] xs[j]
  | [],[],_=>⟨rfl,fun j h=>by simp at h⟩
  | c::cs,x::xs,⟨h,hr⟩=>by
    obtain ⟨e1,e2⟩:=hr.at
    refine ⟨by simp [e1],fun j h1 h2=>?_⟩
    cases j with
    | zero=>exact h
    | succ j=>exact e2 j (by simpa using h1) (by simpa using h2)
theorem lits_rd {α:Type} {T:Ty α} {D:Nat→Prop} {w:World} {b n:Nat} {e:TypeId} {cs:List Value} {fz:Nat×Nat} (css:List (List Value)) {xs:List α} (hb:w.heap[b]?=some (.cells cs.toArray e fz))
    (hcs:cs=css.flatten) (hn:n=xs.length) (hmx:xs.length≤9223372036854775807) (hD:D b) (hrd:qi T D w css xs):ab T D w (.slice (some ⟨b,0,none⟩) n n) xs:=by
  subst hn
  obtain ⟨e1,e2⟩:=hrd.at
  have hlen:∀ x∈css,x.length=T.size:=fun x hx=>by
    obtain ⟨j,hj,rfl⟩:=List.mem_iff_getElem.1 hx
    exact T.len (e2 j hj (by omega))
  refine ⟨_,_,rfl,Nat.le_refl _,hmx,fun h0=>⟨b,0,rfl,hD,dS hb,fun j hj=>⟨css[j]'(by omega),fun i hi=>?_,e2 j (by omega) hj⟩⟩⟩
  have hi':i < T.size:=by rw [hlen _ (List.getElem_mem _)] at hi; exact hi
  have h1:=qh css hlen j (by omega) i hi'
  rw [Nat.zero_add,cell_of_row w b _ cs.toArray e fz hb,List.getElem?_toArray,hcs,h1]
  exact List.getElem?_eq_getElem hi
end Go.PK

namespace Go.PK
open Go Go.RowKit
section
variable {P:Program} {n:Nat} {l:List (Nat×Value)} {own:List (Nat×Obj)} {ro:List av} {lops:List Oper} {Q:Exit→Act→World→Prop} {K:Act→World→Prop}
  {rest:List (Option Bool×Nat)} {k:Option Bool} {i d:Nat} {ty t:TypeId} {pos:String} {af:Array Edge}
theorem fq {τ:Type} {f:FuncId} {fn:Func} {xs:Array Operand} {tys:Array TypeId} {vs:List Value} (V:τ→Value) (R:τ→Prop) (O:τ→List (Nat×Obj)) (ho:lops[i]?=some ⟨some d,.call ⟨.value (.func f),xs,tys⟩,ty,pos,af,none⟩) (hk:(k == some true)=false) (hd:decide (d < n)=true)
    (hf:P.funcs[f]?=some fn) (hbody:(!(fn.name == "runtime.NumGoroutine") && fn.body.isSome)=true) (hx:lw l xs.toList=some vs)
    (hc:∀ w,Mem w own ro→Calls P f vs.toArray w fun e w'=>∃ x,e=.returned (V x)∧Later w w'∧R x∧Mem w' (O x) ro)
    (h:∀ x,R x→WX P lops.toArray Q K rest n ((d,V x)::l) (O x) ro):WX P lops.toArray Q K ((k,i)::rest) n l own ro:=by
  intro a w ha hw
  have hd':d < n:=of_decide_eq_true hd
  have hw1:=bU (lops:=lops) (n:=n) (l:=l) (o:=⟨some d,.call ⟨.value (.func f),xs,tys⟩,ty,pos,af,none⟩) rfl a ha
  have hc':∀ w,Mem w own ro→Calls P f ((#[]:Array Value)++vs.toArray++#[]) w fun e w'=>∃ x,e=.returned (V x)∧Later w w'∧R x∧Mem w' (O x) ro:=by simpa using hc
  simp only [hJ,List.getElem?_toArray,ho]
  cases k with
  | none =>
    intro w' hl
    rw [if_pos hw1]
    unfold Oper.wp
    rw [dO (fst:=#[]) (cap:=#[]) rfl ha rfl hf hbody hx]
    refine Calls.mono (hc' w' (hw.later hl)) fun e w2 he=>?_
    obtain ⟨x,rfl,hl2,hr,hm⟩:=he
    exact h x hr _ w2 (ha.put _ hd') hm
  | some b =>
    have:b=false:=by cases b <;> simp_all
    subst this
    dsimp only
    rw [if_pos hw1]
    intro w' hl
    unfold Oper.wp
    rw [dO (fst:=#[]) (cap:=#[]) rfl ha rfl hf hbody hx]
    refine Calls.mono (hc' w' (hw.later hl)) fun e w2 he=>?_
    obtain ⟨x,rfl,hl2,hr,hm⟩:=he
    exact ⟨hl2,h x hr _ w2 (ha.put _ hd') hm⟩
theorem gz {parts:List (Nat×Operand)} {vs:List (Nat×Value)} {e:TypeId} {z:Value} {cs:List Value} {len m j dj:Nat} {want:Bool} (ho:lops[i]?=some ⟨some d,.buildSlice t len parts.toArray,ty,pos,af,some (j,want)⟩) (hj:(lops[j]?).bind (·.dst)=some dj) (hb:l.lookup dj=some (.bool want))
    (hk:(k == some true)=false) (hd:decide (d < n)=true)
    (ht:P.underlying t=some (.slice e)) (hs:(P.info? e).map (·.size)=some m) (hz:(P.info? e).bind (·.zero)=some z) (hlen:(decide (len*m≤2 ^ 24) && decide (0 < len*m))=true) (hx:evp l parts=some vs)
    (hf:nS (fun j=>some (j*m,m)) ((List.range (len*m)).map (fun i=>(dQ z)[i%(dQ z).length]!)) vs=some cs)
    (h:∀ b,WX P lops.toArray Q K rest n ((d,.slice (some ⟨b,0,none⟩) len len)::l) ((b,.cells cs.toArray e)::own) ro):WX P lops.toArray Q K ((k,i)::rest) n l own ro :=
  nO (f:=fun b=>.slice (some ⟨b,0,none⟩) len len) ho (ig rfl hj hb) rfl hk hd (fun A w ha hw=>by
    have hparts:(parts.toArray.map fun (i,x)=>(i,A.eval x)).toList=vs:=by
      rw [Array.toList_map]; exact ha.evps hx
    simp only [Bool.and_eq_true,decide_eq_true_eq] at hlen
    have h1:¬ len*m > 2 ^ 24:=by omega
    have h2:¬ len*m=0:=by omega
    have h3:=iH vs _ cs hf
    have h4:((List.range (len*m)).map (fun i=>(dQ z)[i%(dQ z).length]!)).toArray=(Array.range (len*m)).map (z.cells[·%z.cells.size]!):=by
      apply Array.toList_inj.1
      simp only [Array.toList_map,Array.toList_range]
      refine List.map_congr_left fun j _=>?_
      rw [kN,← gq]
      simp [Array.getElem!_eq_getD,Array.getD_eq_getD_getElem?]
    rw [h4] at h3
    simp only [execOp,Instr.buildSlice,Sem.run_bind,run_underlying ht,Result.andThen_ok,run_sizeOf hs,h1,h2,if_false,cy hz,Sem.run_pure,hparts,h3,newRow]
    simp) h
end
theorem bY {α:Type} {T:Ty α} {wa wb w1:World} {own own1:List (Nat×Obj)} {ro ro1:List av} {v:Value} {xs:List α} (h:ab T (fun b=>wa.heap.size≤b) wb v xs) (hw1:Mem w1 own1 ro1) (hs:(wb,a7 own)∈ro1) (hm:Mem wa own ro):ab T (fun _=>True) w1 v xs :=
  h.keep fun k hk hlt=>⟨trivial,hw1.ro_at _ hs k (fun p hp he=>by have:=hm.lt hp; omega) hlt⟩
end Go.PK

namespace Go.PK
open Go Go.RowKit
section
variable {P:Program} {n:Nat} {l:List (Nat×Value)} {own own':List (Nat×Obj)} {ro:List av} {lops:List Oper} {Q:Exit→Act→World→Prop} {K:Act→World→Prop} {c:Code} {plan:List (Option Bool×Nat)}
theorem Mem.fix {w:World} (h:Mem w own ro) (hs:own'.Sublist own):Mem w own' ((w,a7 own')::ro):=(h.less hs (fun s hs=>hs)).snap
theorem qj (own':List (Nat×Obj)) (hs:own'.Sublist own) (h:∀ w0,Mem w0 own ro→S K n l own' ((w0,a7 own')::ro)):S K n l own ro :=
  fun a w ha hw=>h w hw a w ha (hw.fix hs)
theorem qk (own':List (Nat×Obj)) (hs:own'.Sublist own) (h:∀ w0,Mem w0 own ro→W P c Q n l own' ((w0,a7 own')::ro)):W P c Q n l own ro :=
  fun a w ha hw=>h w hw a w ha (hw.fix hs)
end
section
variable {P:Program} {n:Nat} {l:List (Nat×Value)} {own:List (Nat×Obj)} {ro:List av} {lops:List Oper} {Q:Exit→Act→World→Prop} {K:Act→World→Prop}
  {rest:List (Option Bool×Nat)} {k:Option Bool} {i d:Nat} {ty:TypeId} {pos:String} {af:Array Edge}
theorem nU {f:FuncId} {fn:Func} {xs:Array Operand} {tys:Array TypeId} {vs:List Value} {j dj:Nat} {want:Bool} (ho:lops[i]?=some ⟨some d,.call ⟨.value (.func f),xs,tys⟩,ty,pos,af,some (j,want)⟩) (hj:(lops[j]?).bind (·.dst)=some dj) (hb:l.lookup dj=some (.bool want)) (hk:(k == some true)=false) (hd:decide (d < n)=true)
    (hf:P.funcs[f]?=some fn) (hbody:(!(fn.name == "runtime.NumGoroutine") && fn.body.isSome)=true) (hx:lw l xs.toList=some vs) {R:Value→World→World→Prop}
    (hc:∀ w,Mem w own ro→Calls P f vs.toArray w fun e w'=>∃ v,e=.returned v∧Later w w'∧R v w w')
    (h:∀ v w1 w2,Mem w1 own ro→Later w1 w2→R v w1 w2→WX P lops.toArray Q K rest n ((d,v)::l) own ((w2,a7 own)::ro)):WX P lops.toArray Q K ((k,i)::rest) n l own ro :=
  jI (fst:=#[]) (cap:=#[]) ho (ig rfl hj hb) rfl rfl hk hd rfl hf hbody hx (by simpa using hc) h
theorem x_cln {f:FuncId} {fn:Func} {xs:Array Operand} {tys:Array TypeId} {c:Operand} {vs:List Value} (ho:lops[i]?=some ⟨some d,.call ⟨.value c,xs,tys⟩,ty,pos,af,none⟩) (hk:(k == some true)=false) (hd:decide (d < n)=true)
    (hcal:ev l c=some (.func (.func f) #[] #[])) (hf:P.funcs[f]?=some fn) (hbody:(!(fn.name == "runtime.NumGoroutine") && fn.body.isSome)=true) (hx:lw l xs.toList=some vs) {R:Value→World→World→Prop}
    (hc:∀ w,Mem w own ro→Calls P f vs.toArray w fun e w'=>∃ v,e=.returned v∧Later w w'∧R v w w')
    (h:∀ v w1 w2,Mem w1 own ro→Later w1 w2→R v w1 w2→WX P lops.toArray Q K rest n ((d,v)::l) own ((w2,a7 own)::ro)):WX P lops.toArray Q K ((k,i)::rest) n l own ro :=
  jI (fst:=#[]) (cap:=#[]) ho (bU rfl) rfl rfl hk hd hcal hf hbody hx (by simpa using hc) h
end
def dC (w:World) (own:List (Nat×Obj)):Nat→Prop:=fun b=>w.heap.size≤b∧a7 own b
theorem aV.frz {w w0 ws:World} {own own' ownh:List (Nat×Obj)} {ro:List av} (h:Mem w0 own ro) (hsub:own'.Sublist own) (hs:(ws,a7 ownh)∈ro):aV (dC w ownh) (dC w own') ws w0 :=
  fun k hk hlt=>⟨⟨hk.1,fun p hp he=>by
    have h1:=h.apart p (hsub.subset hp) _ hs (by rw [he]; exact hk.2)
    simp only at h1; omega⟩,h.ro_at _ hs k hk.2 hlt⟩
theorem aV.made {w wa wb w0:World} {own own1:List (Nat×Obj)} {ro ro1:List av} (h:Mem w0 own ro) (hs:(wb,a7 own1)∈ro) (hm:Mem wa own1 ro1) (hw:w.heap.size≤wa.heap.size):aV (fun b=>wa.heap.size≤b) (dC w own) wb w0 :=
  fun k hk hlt=>⟨⟨Nat.le_trans hw hk,fun p hp he=>by
    have h1:=h.apart p hp _ hs (fun q hq e=>by have:=hm.lt hq; omega)
    simp only at h1; omega⟩,h.ro_at _ hs k (fun q hq e=>by have:=hm.lt hq; omega) hlt⟩
theorem aV.new {w w1 ws:World} {own own1:List (Nat×Obj)} {ro:List av} (h:Mem w1 own1 ro) (hs:(ws,a7 own)∈ro):aV (dC w own) (fun _=>True) ws w1 :=
  fun k hk hlt=>⟨trivial,h.ro_at _ hs k hk.2 hlt⟩
theorem aV.out {w w0 ws:World} {own ownh:List (Nat×Obj)} {ro:List av} (h:Mem w0 own ro) (hs:(ws,a7 ownh)∈ro):aV (dC w ownh) (fun b=>w.heap.size≤b) ws w0 :=
  fun k hk hlt=>⟨hk.1,h.ro_at _ hs k hk.2 hlt⟩
def cZ {α:Type} (T:Ty α) (D:Nat→Prop) (ws:World) (r:ak) (xs:List α):Prop :=
  ∃ css:List (List Value),css.length=xs.length∧ag T.size r xs.length css.flatten∧∀ j (h1:j < css.length) (h2:j < xs.length),T.rd D ws css[j] xs[j]
section
variable {α:Type} {T:Ty α} {D D':Nat→Prop} {w ws w':World} {r r':ak} {xs:List α}
theorem cZ.nil:cZ T D ws none []:=⟨[],rfl,bG,fun j h1=>by simp at h1⟩
theorem cZ.keep (h:cZ T D ws r xs) (hk:aV D D' ws w'):cZ T D' w' r xs:=by
  obtain ⟨css,h1,h2,h3⟩:=h
  exact ⟨css,h1,h2,fun j a b=>T.keep (h3 j a b) hk⟩
theorem snocT {css:List (List Value)} {cs:List Value} {x:α} (h1:css.length=xs.length) (h3:∀ j (h1:j < css.length) (h2:j < xs.length),T.rd D ws css[j] xs[j]) (hr:ag T.size r' (xs.length+1) (css.flatten++cs)) (hx:T.rd D ws cs x):cZ T D ws r' (xs++[x]):=by
  refine ⟨css++[cs],by simp [h1],by simpa using hr,fun j a b=>?_⟩
  by_cases hj:j < css.length
  · rw [List.getElem_append_left hj,List.getElem_append_left (by omega)]; exact h3 j hj (by omega)
  · have hj2:j=css.length:=by simp at a; omega
    subst hj2
    rw [List.getElem_append_right (Nat.le_refl _),List.getElem_append_right (by omega)]
    simpa [h1] using hx
theorem nV {n:Nat} {css:List (List Value)} {cs:List Value} {x:α} (hn:xs.length=n) (h1:css.length=n) (h3:∀ j (h1:j < css.length) (h2:j < xs.length),T.rd D ws css[j] xs[j]) (hr:ag T.size r' (n+1) (css.flatten++cs)) (hx:T.rd D ws cs x):cZ T D ws r' (xs++[x]):=by
  subst hn; exact snocT h1 h3 hr hx
theorem ii {m:Nat}:∀ (css:List (List Value)) (hl:∀ j (h:j < css.length),css[j].length=m) (j:Nat) (hj:j < css.length) (i:Nat),i < m→css.flatten[j*m+i]?=css[j][i]?
  | [],_,j,hj,_,_=>by simp at hj
  | x::xs,hl,0,_,i,hi=>by
    have h0:x.length=m:=hl 0 (by simp)
    rw [List.flatten_cons,List.getElem?_append_left (by rw [Nat.zero_mul,Nat.zero_add,h0]; exact hi)]; simp
  | x::xs,hl,j+1,hj,i,hi=>by
    have h0:x.length=m:=hl 0 (by simp)
    rw [List.flatten_cons,List.getElem?_append_right (by rw [h0,Nat.add_mul]; omega),h0,show (j+1)*m+i - m=j*m+i by rw [Nat.add_mul]; omega]
    exact ii xs (fun k h=>hl (k+1) (by simpa using h)) j (by simpa using hj) i hi
theorem cZ.rd {own:List (Nat×Obj)} {ro:List av} {e:TypeId} {v:Nat} (h:cZ T D w r xs) (hm:Mem w own ro) (hin:∀ p∈aA e r,p∈own) (hD:∀ b,D b→D' b) (hb:∀ p∈aA e r,D' p.1) (hv:v=xs.length):ab T D' w (au r v) xs:=by
  subst hv
  obtain ⟨css,h1,⟨h2,h4⟩,h3⟩:=h
  cases r with
  | none =>
    simp only at h4
    exact ⟨none,0,by simp [au,jN,tA],by omega,by omega,fun h=>by omega⟩
  | some x =>
    obtain ⟨b,cs,c⟩:=x
    obtain ⟨h5,h6,h7,h8⟩:=h4
    simp only at h5 h6 h7 h8
    have hmem:(b,Obj.cells cs.toArray e (0,0))∈own:=hin _ (by simp [aA])
    have hbl:=hm.own_at _ hmem
    refine ⟨_,c,rfl,h5,by unfold maxLen at h6; omega,fun h0=>⟨b,0,rfl,hb (b,Obj.cells cs.toArray e (0,0)) (by simp [aA]),dS hbl,fun j hj=>⟨css[j],fun i hi=>?_,T.keep (h3 j (by omega) hj) (fun k hk _=>⟨hD k hk,rfl⟩)⟩⟩⟩
    have hlen:∀ k (hk:k < css.length),css[k].length=T.size:=fun k hk=>T.len (h3 k hk (by omega))
    have hi':i < T.size:=by rw [hlen] at hi; exact hi
    have h9:=ii css hlen j (by omega) i hi'
    have h10:j*T.size+i < xs.length*T.size:=by
      have:(j+1)*T.size≤xs.length*T.size:=Nat.mul_le_mul_right _ (by omega)
      rw [Nat.add_mul] at this
      omega
    rw [Nat.zero_add,cell_of_row w b _ cs.toArray e (0,0) hbl,List.getElem?_toArray]
    rw [← h8,List.getElem?_take_of_lt h10] at h9
    rw [h9]
    exact List.getElem?_eq_getElem hi
theorem cZ.len {v:Nat} (h:cZ T D w r xs):xs.length≤maxLen:=by
  obtain ⟨css,h1,⟨h2,h4⟩,h3⟩:=h
  cases r with
  | none=>simp only at h4; omega
  | some x=>obtain ⟨b,cs,c⟩:=x; obtain ⟨h5,h6,_⟩:=h4; exact Nat.le_trans h5 h6
end
theorem wrap_rng (n:Int):-9223372036854775808≤IntKind.i64.wrap n∧IntKind.i64.wrap n≤9223372036854775807:=by rw [IntKind.wrap_i64]; omega
theorem Mem.newer {w w0:World} {own:List (Nat×Obj)} {ro:List av} (h:Mem w own ro) (hs:(w0,fun _=>True)∈ro) {p:Nat×Obj} (hp:p∈own):w0.heap.size≤p.1:=h.apart p hp _ hs trivial
theorem Mem.notIn {w:World} {own own' l1:List (Nat×Obj)} {ro:List av} (h:Mem w own ro) (hp:(l1++own').Sublist own) {p:Nat×Obj} (hm:p∈l1):a7 own' p.1:=fun q hq he=>by
  have hnd:=(hp.map (·.1)).nodup h.own_nd
  rw [List.map_append,List.nodup_append] at hnd
  exact hnd.2.2 p.1 (List.mem_map_of_mem hm) q.1 (List.mem_map_of_mem hq) he.symm
theorem Mem.notMid {w:World} {mid b:List (Nat×Obj)} {ro:List av} (a:List (Nat×Obj)) (h:Mem w (a++(mid++b)) ro) {p:Nat×Obj} (hp:p∈mid):a7 (a++b) p.1:=fun q hq he=>by
  have hnd:=h.own_nd
  rw [List.map_append,List.map_append,List.nodup_append,List.nodup_append] at hnd
  obtain ⟨_,⟨_,_,h3⟩,h4⟩:=hnd
  have hpm:p.1∈mid.map (·.1):=List.mem_map_of_mem hp
  rcases List.mem_append.1 hq with hq | hq
  · exact h4 q.1 (List.mem_map_of_mem hq) p.1 (List.mem_append_left _ hpm) he
  · exact h3 p.1 hpm q.1 (List.mem_map_of_mem hq) he.symm
theorem cZ.plain {α:Type} {T:Ty α} {w:World} {mid b:List (Nat×Obj)} {ro:List av} {e:TypeId} {r:ak} {xs:List α} {w0 wx:World} {n:Nat} (a:List (Nat×Obj)) (h:cZ T (fun _=>False) wx r xs) (hmid:mid=aA e r) (hm:Mem w (a++(mid++b)) ro) (hb:(w0,fun _=>True)∈ro) (hn:n=xs.length):ab T (dC w0 (a++b)) w (au r n) xs:=by
  subst hmid
  have h':cZ T (fun _=>False) w r xs:=h.keep (fun k hk _=>hk.elim)
  exact h'.rd hm (fun p hp=>List.mem_append_right _ (List.mem_append_left _ hp)) (fun _ hx=>hx.elim) (fun p hp=>⟨hm.newer hb (List.mem_append_right _ (List.mem_append_left _ hp)),hm.notMid a hp⟩) hn
theorem ey {P:Program} {c:Code} {Q:Exit→Act→World→Prop} {n:Nat} (l:List (Nat×Value)) (own:List (Nat×Obj)) (ro:List av) (h:W P c Q n l own ro):W P c Q n l own ro:=h
theorem mul9 {j m a b:Int} (h1:0≤j∧j≤a) (h2:0≤m∧m≤b):0≤j*m∧j*m≤a*b :=
  ⟨Int.mul_nonneg h1.1 h2.1,Int.mul_le_mul h1.2 h2.2 h2.1 (by omega)⟩
end Go.PK

namespace Go.PK
open Go Go.RowKit
def tagL:List ByteArray:=[⟨#[48,48,49]⟩,⟨#[50,52,53]⟩,⟨#[49,48,48]⟩,⟨#[48,50,48]⟩,⟨#[54,53,48]⟩,⟨#[55,48,48]⟩,⟨#[50,54,48]⟩,⟨#[53,48,48]⟩,⟨#[57,48,48]⟩,⟨#[57,52,57]⟩,⟨#[48,48,56]⟩,⟨#[50,52,54]⟩,⟨#[54,48,48]⟩,⟨#[49,49,48]⟩,⟨#[52,57,48]⟩,⟨#[48,48,51]⟩,⟨#[57,122,57]⟩,⟨#[50,52]⟩,⟨#[57,57,57]⟩,⟨#[48]⟩]
def textL:List ByteArray:=[⟨#[69,109,109,97]⟩,⟨#[84,104,101,32,115,101,97]⟩,⟨#[195,156,98,101,114,32,100,101,110,32,70,108,117,195,159]⟩,⟨#[87,97,114,32,97,110,100,32,112,101,97,99,101]⟩,⟨#[119,97,114,32,38,32,80,69,65,67,69]⟩,⟨#[65,117,115,116,101,110,44,32,74,97,110,101]⟩,⟨#[84,111,108,115,116,111,121]⟩,⟨#[49,57,56,52]⟩,⟨#[57,55,56,48,51,48,54,52,48,54,49,53,55]⟩,⟨#[48,51,48,54,52,48,54,49,53,50]⟩,⟨#[76,111,110,100,111,110]⟩,⟨#[83,101,97,32,115,116,111,114,105,101,115]⟩,⟨#[65]⟩,⟨#[]⟩,⟨#[69,109,109,97,32,97,110,100,32,116,104,101,32,115,101,97]⟩,⟨#[49,57,57,57]⟩,⟨#[99,49,57,57,57,46]⟩,⟨#[82,105,118,101,114,115]⟩,⟨#[79,99,101,97,110,115,32,45,45,32,72,105,115,116,111,114,121]⟩,⟨#[112,101,97,99,101]⟩]
def indL:List ByteArray:=[⟨#[49,48]⟩,⟨#[32,32]⟩,⟨#[49,32]⟩,⟨#[48,48]⟩,⟨#[48,32]⟩,⟨#[32,48]⟩,⟨#[51,32]⟩,⟨#[49,50]⟩]
def pickS (l:List ByteArray) (n:Int):ByteArray:=l.getD (n%l.length).toNat ⟨#[]⟩
def wC (n:Int):ByteArray:=pickS tagL n
def textOf (n:Int):ByteArray:=pickS textL n
structure I4 where
  a:Int
  b:Int
  c:Int
  d:Int
def aj (n:Int):Prop:=-9223372036854775808≤n∧n≤9223372036854775807
def I4.ok (x:I4):Prop:=aj x.a∧aj x.b∧aj x.c∧aj x.d
def I4.cells (x:I4):List Value:=[.int .i64 x.a,.int .i64 x.b,.int .i64 x.c,.int .i64 x.d]
def codesL:ByteArray:=⟨#[97,98,99,48,97,118,120,113]⟩
def madeSub (x:I4) (j:Nat):Sb:=⟨ad codesL ((x.c.tdiv 3+(j:Int)*(1+x.b%3))%8).toNat,textOf (IntKind.i64.wrap (x.d+3*(j:Int)))⟩
def madeF (x:I4):Fl :=
  if 1 < (wC x.a).size∧(wC x.a).extract 0 2=⟨#[48,48]⟩ then ⟨wC x.a,⟨#[]⟩,textOf x.d,[]⟩
  else ⟨wC x.a,pickS indL x.b,⟨#[]⟩,(List.range (1+(x.c%3).toNat)).map (madeSub x)⟩
def made (l:List I4):List Fl:=(l.take 20).map madeF
end Go.PK

namespace Go.PK
open Go Go.RowKit
theorem Mem.to {w:World} {own own':List (Nat×Obj)} {ro:List av} (h:Mem w own ro) (e:own=own'):Mem w own' ro:=e▸h
theorem ml {P:Program} {w:World} (base:Nat) (t ty e:TypeId) (i:TypeInfo) (size c2:Nat) (ht:P.underlying t=some (.slice e)) (hi:P.info? e=some i)
    (v:Value) (n:Nat) (xs:List Value) (hown:w.ownsRow base e size v n xs) :
    (Builtin.append_ #[t,t] ty #[v,.slice none 0 c2]).run P w=.ok v w:=by
  rcases hown.2 with ⟨rfl,rfl⟩ | ⟨g,cap,cur,rfl,_,_,hnc,_⟩
  · simp [Builtin.append_,run_underlying ht,sizeOf,typeInfo,hi,Builtin.lenOf,Builtin.firstCells]
  · simp [Builtin.append_,run_underlying ht,sizeOf,typeInfo,hi,Builtin.lenOf,Builtin.firstCells,hnc,storeCells]
section
variable {P:Program} {n:Nat} {l:List (Nat×Value)} {own:List (Nat×Obj)} {ro:List av} {lops:List Oper} {Q:Exit→Act→World→Prop} {K:Act→World→Prop}
  {rest:List (Option Bool×Nat)} {k:Option Bool} {i d b off:Nat} {op:Op} {ty:TypeId} {pos:String} {af:Array Edge} {x y:Operand} {t t':TypeId}
theorem gh {e:TypeId} {z:Value} {size bytes m len c2:Nat} {ao:Option Addr} {xs news:List Value} (l1:List (Nat×Obj)) {l2:List (Nat×Obj)} (r:ak) (ho:lops[i]?=some ⟨some d,.call ⟨.builtin .append,#[x,y],#[t,t]⟩,ty,pos,af,none⟩) (hd:decide (d < n)=true)
    (hx:ev l x=some (au r len)) (hy:ev l y=some (.slice ao m c2)) (hown:own=l1++aA e r++l2) (hr:ag size r len xs)
    (ht:P.underlying t=some (.slice e)) (hi:(P.info? e).map (fun j=>(j.zero,j.size,j.bytes))=some (some z,size,bytes)) (hz:(decide (z.cells.size=size) && decide (0 < size))=true)
    (hl:news.length=m*size) (hno:ao=none→m=0) (hat:∀ w,Mem w own ro→∀ a,ao=some a→∀ j u,news[j]?=some u→w.cell? (a.add j)=some u) (h1:news.all (fun u=>u.oneCell')=true)
    (hb1:len+m≤maxLen) (hb2:(len+m)*bytes≤140737488355328)
    (h:∀ r',ag size r' (len+m) (xs++news)→WX P lops.toArray Q K rest n ((d,au r' (len+m))::l) (l1++aA e r'++l2) ro):WX P lops.toArray Q K ((none,i)::rest) n l own ro:=by
  intro a w ha hw
  have hd':d < n:=of_decide_eq_true hd
  have hw1:=bU (lops:=lops) (n:=n) (l:=l) (o:=⟨some d,.call ⟨.builtin .append,#[x,y],#[t,t]⟩,ty,pos,af,none⟩) rfl a ha
  simp only [hJ,List.getElem?_toArray,ho]
  intro w' hl'
  rw [if_pos hw1]
  have hM0:=hw.later hl'
  have hat':=hat w' hM0
  subst hown
  have hM:=hM0
  obtain ⟨inf,hi1,hi2⟩:=Option.map_eq_some_iff.1 hi
  simp only [Prod.mk.injEq] at hi2
  obtain ⟨hiz,his,hib⟩:=hi2
  simp only [Bool.and_eq_true,decide_eq_true_eq] at hz
  unfold Oper.wp execOp
  cases ao with
  | none =>
    have hm0:=hno rfl
    subst hm0
    have hnews:news=[]:=List.eq_nil_of_length_eq_zero (by simpa using hl)
    subst hnews
    have hrun:=ml (P:=P) (w:=w') 0 t ty e inf size c2 ht hi1 (au r len) len xs (lB (own:=[]) hM hr)
    simp only [resolve,invoke,builtin,Sem.run_bind,Sem.run_pure,Result.andThen_ok,List.map_toArray,List.map_cons,List.map_nil,ha.eval hx,ha.eval hy,hrun]
    exact h r (by simpa using hr) _ _ (ha.put _ hd') hM
  | some a0 =>
    obtain ⟨v',w2,hrun,h2,h3,_,h5⟩:=run_append_own_at (P:=P) w' 0 t ty e inf z size bytes ht hi1 hiz his hib hz.1 hz.2 (au r len) len xs (lB (own:=[]) hM hr) a0 m c2 news hl
      (hat' a0 rfl) (by simpa using h1) hb1 hb2 (Nat.zero_le _)
    obtain ⟨r',rfl,hok,hM2⟩:=hM.append h2 h3 h5
    simp only [resolve,invoke,builtin,Sem.run_bind,Sem.run_pure,Result.andThen_ok,List.map_toArray,List.map_cons,List.map_nil,ha.eval hx,ha.eval hy,hrun]
    exact h r' hok _ _ (ha.put _ hd') hM2
theorem kF {e:TypeId} {m:Nat} (ho:lops[i]?=some ⟨some d,.buildSlice t 0 #[],ty,pos,af,none⟩) (hk:(k == some true)=false) (hd:decide (d < n)=true)
    (ht:P.underlying t=some (.slice e)) (hs:(P.info? e).map (·.size)=some m)
    (h:∀ b,WX P lops.toArray Q K rest n ((d,.slice (some ⟨b,0,none⟩) 0 0)::l) ((b,.cells #[] e)::own) ro):WX P lops.toArray Q K ((k,i)::rest) n l own ro :=
  nO (f:=fun b=>.slice (some ⟨b,0,none⟩) 0 0) ho (bU rfl) rfl hk hd (fun A w ha hw=>by
    simp [execOp,Instr.buildSlice,Sem.run_bind,run_underlying ht,Result.andThen_ok,run_sizeOf hs,Instr.fill,newRow,show ∀ g:Nat→Value,Array.map g (Array.range 0)=#[] from fun g=>Array.eq_empty_of_size_eq_zero (by simp)]) h
theorem ji {e:TypeId} {m c:Nat} (bs:List UInt8) (hs:P.underlying t=some (.slice e)) (he:P.underlying e=some (.int .u8)) (hd:P.underlying t'=some .string) (hx:ev l x=some (.slice (some ⟨b,off,none⟩) m c)) (hm:m=bs.length)
    (hc:∀ j (hj:j < bs.length),At own ro b (off+j) (.int .u8 bs[j].toNat)):cx P n l own ro (.convert t t' x) ty (.string ⟨bs.toArray⟩):=by
  intro A w o ha hw ho _
  subst hm
  have:=run_convert_bytes_back (P:=P) w t t' e ⟨b,off,none⟩ c bs hs he hd (fun j hj=>by rw [jh]; exact hc j hj w hw)
  simp [execOp,ho,ha.eval hx,this]
end
theorem ab.cells {α:Type} {T:Ty α} {D:Nat→Prop} {w:World} {A:Option Addr} {m c:Nat} {xs:List α} (h:ab T D w (.slice A m c) xs) :
    ∃ css:List (List Value),css.length=xs.length∧m=xs.length∧css.flatten.length=m*T.size∧(∀ j (h1:j < css.length) (h2:j < xs.length),T.rd D w css[j] xs[j])∧(A=none→m=0) ∧
      (∀ a,A=some a→∀ j u,css.flatten[j]?=some u→w.cell? (a.add j)=some u)∧(0 < xs.length→∃ b off,A=some ⟨b,off,none⟩∧D b∧b < w.heap.size):=by
  obtain ⟨A',c',e,h1,h2,h3⟩:=h
  injection e with e1 e2 e3
  subst e1 e2 e3
  cases xs with
  | nil=>exact ⟨[],rfl,rfl,by simp,fun j h=>by simp at h,fun _=>rfl,fun a _ j u hu=>by simp at hu,fun h=>by simp at h⟩
  | cons y ys =>
    obtain ⟨b,off,rfl,hD,hb,hc⟩:=h3 (by simp)
    have hc':∀ j:Fin (y::ys).length,∃ cs,(∀ i (hi:i < cs.length),w.cell? ⟨b,off+j.1*T.size+i,none⟩=some cs[i])∧T.rd D w cs (y::ys)[j.1]:=fun j=>hc j.1 j.2
    let f:Fin (y::ys).length→List Value:=fun j=>(hc' j).choose
    have hf:∀ j,(∀ i (hi:i < (f j).length),w.cell? ⟨b,off+j.1*T.size+i,none⟩=some (f j)[i])∧T.rd D w (f j) (y::ys)[j.1]:=fun j=>(hc' j).choose_spec
    have hlen:∀ j (h:j < (List.ofFn f).length),(List.ofFn f)[j].length=T.size:=fun j h=>by
      rw [List.getElem_ofFn]; exact T.len (hf _).2
    have htot:(List.ofFn f).flatten.length=(y::ys).length*T.size:=by
      rw [List.length_flatten]
      have:(List.ofFn f).map List.length=List.replicate (y::ys).length T.size:=by
        apply List.ext_getElem
        · simp
        · intro j h1 h2
          rw [List.getElem_map,List.getElem_replicate]
          exact hlen j (by simpa using h1)
      rw [this]; simp
    refine ⟨List.ofFn f,by simp,rfl,htot,fun j h1 h2=>?_,(fun h=>by cases h),fun a ha j u hu=>?_,fun _=>⟨b,off,rfl,hD,hb⟩⟩
    · rw [List.getElem_ofFn]; exact (hf ⟨j,h2⟩).2
    · obtain rfl:=Option.some.inj ha
      have hj:j < (y::ys).length*T.size:=by
        rw [← htot]; exact (List.getElem?_eq_some_iff.1 hu).1
      have hs0:0 < T.size:=by
        rcases Nat.eq_zero_or_pos T.size with h0 | h0
        · rw [h0] at hj; omega
        · exact h0
      have hq:j / T.size < (y::ys).length:=Nat.div_lt_of_lt_mul (by rw [Nat.mul_comm]; exact hj)
      have hr:j%T.size < T.size:=Nat.mod_lt _ hs0
      have hjd:j / T.size*T.size+j%T.size=j:=by rw [Nat.mul_comm]; exact Nat.div_add_mod j T.size
      have hg:=ii (List.ofFn f) hlen (j / T.size) (by simpa using hq) (j%T.size) hr
      rw [hjd,List.getElem_ofFn] at hg
      have hfl:(f ⟨j / T.size,hq⟩).length=T.size:=T.len (hf _).2
      have hx:=List.getElem?_eq_getElem (l:=f ⟨j / T.size,hq⟩) (i:=j%T.size) (by rw [hfl]; exact hr)
      rw [hx] at hg
      rw [hg] at hu
      obtain rfl:=Option.some.inj hu
      have:=(hf ⟨j / T.size,hq⟩).1 (j%T.size) (by rw [hfl]; exact hr)
      rw [jh,← this,Nat.add_assoc,hjd]
def sbC (s:Sb):List Value:=[.int .u8 s.code.toNat,.string s.text]
def pE (f:Fl) (S:ak):List Value:=[.string f.tag,.string f.ind,.string f.data,au S f.subs.length]
def Fl.good (f:Fl):Prop:=f.ok∧∀ s∈f.subs,iD s.text
structure DeepOK (R:ak) (Ss:List ak) (fs:List Fl):Prop where
  len:Ss.length=fs.length
  row:ag 4 R fs.length (List.zipWith pE fs Ss).flatten
  subs:∀ j (h1:j < Ss.length) (h2:j < fs.length),ag 2 Ss[j] fs[j].subs.length (fs[j].subs.flatMap sbC)
  ok:∀ f∈fs,f.good
def subsO (Ss:List ak):List (Nat×Obj):=Ss.reverse.flatMap (aA 48)
theorem DeepOK.nil:DeepOK none [] []:=⟨rfl,bG,fun j h=>by simp at h,by simp⟩
theorem ve {fs:List Fl} {Ss:List ak} (h:Ss.length=fs.length):(List.zipWith pE fs Ss).length=fs.length:=by rw [List.length_zipWith,h,Nat.min_self]
theorem DeepOK.snoc {R R' S:ak} {Ss:List ak} {fs:List Fl} {f:Fl} {n:Nat} (h:DeepOK R Ss fs) (hn:n=fs.length) (hr:ag 4 R' (n+1) ((List.zipWith pE fs Ss).flatten++pE f S)) (hs:ag 2 S f.subs.length (f.subs.flatMap sbC)) (hok:f.good):DeepOK R' (Ss++[S]) (fs++[f]) where
  len:=by simp [h.len]
  row:=by
    subst hn
    rw [List.zipWith_append h.len.symm]
    simpa using hr
  subs:=fun j h1 h2=>by
    by_cases hj:j < Ss.length
    · have hj2:j < fs.length:=by rw [← h.len]; exact hj
      rw [List.getElem_append_left hj]
      simp only [List.getElem_append_left hj2]
      exact h.subs j hj hj2
    · have hj2:j=fs.length:=by have:=h.len; simp at h1 h2; omega
      subst hj2
      rw [List.getElem_append_right (by omega)]
      simp only [List.getElem_append_right (Nat.le_refl _)]
      simpa [h.len] using hs
  ok:=fun g hg=>by
    rcases List.mem_append.1 hg with hg | hg
    · exact h.ok g hg
    · rw [List.mem_singleton.1 hg]; exact hok
end Go.PK

namespace Go.PK
open Go Go.RowKit
theorem jO {m:Nat}:∀ (css:List (List Value)) (hl:∀ j (h:j < css.length),css[j].length=m) (n:Nat) (hn:n < css.length) (x:List Value),
    (css.set n x).flatten=css.flatten.take (n*m)++x++css.flatten.drop (n*m+m)
  | [],_,n,hn,_=>by simp at hn
  | c::css,hl,0,hn,x=>by
    have h0:c.length=m:=hl 0 (by simp)
    rw [List.set_cons_zero,List.flatten_cons,List.flatten_cons,Nat.zero_mul,Nat.zero_add,List.take_zero,List.nil_append,← h0,List.drop_left]
  | c::css,hl,n+1,hn,x=>by
    have h0:c.length=m:=hl 0 (by simp)
    have e:(n+1)*m=c.length+n*m:=by rw [Nat.add_mul,h0]; omega
    rw [List.set_cons_succ,List.flatten_cons,List.flatten_cons,jO css (fun k h=>hl (k+1) (by simpa using h)) n (by simpa using hn) x,e,Nat.add_assoc,List.take_length_add_append,List.drop_length_add_append]
    simp [List.append_assoc]
theorem rC (f:Fl) (S:ak):(pE f S).length=4:=rfl
theorem zw_get {fs:List Fl} {Ss:List ak} {j:Nat} (h1:j < fs.length) (h2:j < Ss.length) (h:j < (List.zipWith pE fs Ss).length):(List.zipWith pE fs Ss)[j]=pE fs[j] Ss[j]:=List.getElem_zipWith
theorem zw_m {fs:List Fl} {Ss:List ak} (j:Nat) (h:j < (List.zipWith pE fs Ss).length):(List.zipWith pE fs Ss)[j].length=4:=by rw [List.getElem_zipWith]; rfl
theorem zw_flat {fs:List Fl} {Ss:List ak} (h:Ss.length=fs.length):(List.zipWith pE fs Ss).flatten.length=fs.length*4:=by
  rw [List.length_flatten]
  have:(List.zipWith pE fs Ss).map List.length=List.replicate fs.length 4:=by
    apply List.ext_getElem
    · simp [h]
    · intro j h1 h2
      rw [List.getElem_map,List.getElem_replicate]
      exact zw_m j (by simpa using h1)
  rw [this]; simp
theorem DeepOK.there {R:ak} {Ss:List ak} {fs:List Fl} (h:DeepOK R Ss fs) (hl:0 < fs.length):∃ b cs c,R=some (b,cs,c)∧fs.length≤c∧c≤maxLen∧cs.length=c*4∧cs.take (fs.length*4)=(List.zipWith pE fs Ss).flatten:=by
  obtain ⟨h1,h2⟩:=h.row
  cases R with
  | none=>simp only at h2; omega
  | some x=>obtain ⟨b,cs,c⟩:=x; obtain ⟨h3,h4,h5,h6⟩:=h2; exact ⟨b,cs,c,rfl,h3,h4,h5,h6⟩
theorem DeepOK.at {b c:Nat} {cs:List Value} {Ss:List ak} {fs:List Fl} (h:DeepOK (some (b,cs,c)) Ss fs) {n:Nat} (h1:n < fs.length) (h2:n < Ss.length) {i:Nat} (hi:i < 4):cs[n*4+i]?=(pE fs[n] Ss[n])[i]?:=by
  obtain ⟨b',cs',c',e,h3,h4,h5,h6⟩:=h.there (by omega)
  injection e with e; injection e with e1 e2; injection e2 with e2 e3; subst e1 e2 e3
  have hz:=ve h.len
  have:=ii (m:=4) (List.zipWith pE fs Ss) (fun j h=>zw_m j h) n (by omega) i hi
  rw [zw_get h1 h2,← h6,List.getElem?_take_of_lt (by omega)] at this
  exact this
theorem DeepOK.set {b c:Nat} {cs:List Value} {Ss:List ak} {fs:List Fl} (h:DeepOK (some (b,cs,c)) Ss fs) {n:Nat} (h1:n < fs.length) {g:Fl} {S:ak} (hs:ag 2 S g.subs.length (g.subs.flatMap sbC)) (hg:g.good) :
    DeepOK (some (b,cs.take (n*4)++pE g S++cs.drop (n*4+4),c)) (Ss.set n S) (fs.set n g):=by
  obtain ⟨b',cs',c',e,h3,h4,h5,h6⟩:=h.there (by omega)
  injection e with e; injection e with e1 e2; injection e2 with e2 e3; subst e1 e2 e3
  have hz:=ve h.len
  have hfl:=zw_flat h.len
  have h2:n < Ss.length:=by rw [h.len]; exact h1
  have hzs:List.zipWith pE (fs.set n g) (Ss.set n S)=(List.zipWith pE fs Ss).set n (pE g S):=by
    apply List.ext_getElem
    · simp
    · intro j a1 a2
      rw [List.getElem_zipWith,List.getElem_set,List.getElem_set,List.getElem_set]
      split
      · rfl
      · rw [List.getElem_zipWith]
  refine ⟨by simp [h.len],⟨?_,?_⟩,fun j a1 a2=>?_,fun f hf=>?_⟩
  · rw [hzs,jO (m:=4) _ (fun j h=>zw_m j h) n (by omega)]
    simp only [List.length_append,List.length_take,List.length_drop,hfl,rC,List.length_set]
    omega
  · have hcs:cs=(List.zipWith pE fs Ss).flatten++cs.drop (fs.length*4):=by rw [← h6,List.take_append_drop]
    refine ⟨by simpa using h3,h4,?_,?_⟩
    · simp only [List.length_append,List.length_take,List.length_drop,rC]; omega
    · rw [List.length_set,hzs,jO (m:=4) _ (fun j h=>zw_m j h) n (by omega)]
      generalize (List.zipWith pE fs Ss).flatten=F at hcs hfl
      generalize cs.drop (fs.length*4)=G at hcs
      have e1:List.take (n*4) (F++G)=F.take (n*4):=List.take_append_of_le_length (by omega)
      have e2:List.drop (n*4+4) (F++G)=F.drop (n*4+4)++G:=List.drop_append_of_le_length (by omega)
      rw [hcs,e1,e2,← List.append_assoc]
      exact List.take_left' (by simp only [List.length_append,List.length_take,List.length_drop,rC]; omega)
  · simp only [List.length_set] at a1 a2
    by_cases hj:n=j
    · subst hj
      simp only [List.getElem_set_self]; exact hs
    · simp only [List.getElem_set_ne hj]
      exact h.subs j a1 a2
  · rcases List.mem_or_eq_of_mem_set hf with hf | rfl
    · exact h.ok f hf
    · exact hg
theorem subs_rd {own:List (Nat×Obj)} {ro:List av} {w:World} {D:Nat→Prop} {S:ak} {xs:List Sb} (hr:ag 2 S xs.length (xs.flatMap sbC)) (hok:∀ s∈xs,iD s.text) (hm:Mem w own ro) (hin:∀ p∈aA 48 S,p∈own) (hD:∀ p∈own,D p.1):ab tySb D w (au S xs.length) xs:=by
  have h:cZ tySb (fun _=>False) w S xs:=⟨xs.map sbC,by simp,by rw [← List.flatMap_def]; exact hr,fun j a1 a2=>by
    rw [List.getElem_map]; exact ⟨rfl,hok _ (List.getElem_mem a2)⟩⟩
  exact h.rd hm hin (fun _ hx=>hx.elim) (fun p hp=>hD p (hin p hp)) rfl
theorem DeepOK.rd {own:List (Nat×Obj)} {ro:List av} {w:World} {D:Nat→Prop} {R:ak} {Ss:List ak} {fs:List Fl} (h:DeepOK R Ss fs) (hm:Mem w own ro) (hR:∀ p∈aA 46 R,p∈own) (hS:∀ p∈subsO Ss,p∈own) (hD:∀ p∈own,D p.1):ab tyFl D w (au R fs.length) fs:=by
  have hz:=ve h.len
  have hT:cZ tyFl D w R fs:=⟨List.zipWith pE fs Ss,hz,h.row,fun j a1 a2=>by
    have a3:j < Ss.length:=by rw [h.len]; exact a2
    rw [zw_get a2 a3]
    refine ⟨_,rfl,(h.ok _ (List.getElem_mem a2)).1,subs_rd (h.subs j a3 a2) (h.ok _ (List.getElem_mem a2)).2 hm (fun p hp=>hS p ?_) hD⟩
    unfold subsO
    exact List.mem_flatMap.2 ⟨Ss[j],List.mem_reverse.2 (List.getElem_mem a3),hp⟩⟩
  exact hT.rd hm hR (fun _ h=>h) (fun p hp=>hD p (hR p hp)) rfl
end Go.PK

namespace Go.PK
open Go Go.ChangeShapes Go.WideShapes Go.ChangeAt Go.RowKit
section
variable {H:Type} {enc:TypeId×Value→H} {P:Program} {W W':World}
theorem vf (hl:PK.Later W W') {p:MemPlace} (hp:p.block < W.heap.size):W.sameAt W' p:=Below.same hl hp
theorem nW {T:TypeId→Prop} (K:Kids P T) (hz:∀ t e,T t→P.underlying t=some (.slice e)→0 < P.cellsOf e) {sp:Nat→Bool} (hl:PK.Later W W'):∀ {ts:List TypeId} {vs:List Value} {ds:List (DataW H)} {ps:List MemPlace},(∀ t∈ts,T t) →
    DataW.TrodAll enc P W 0 (fun _=>true) true ts vs ds ps→(∀ p∈ps,p.block < W.heap.size)→(∀ p∈ps,sp p.block=true)→DataW.TrodAll enc P W' 0 sp true ts vs ds ps
  | [],[],[],_,_,h,_,_=>h
  | _::_,_::_,_::_,_,hT,⟨p,q,h1,h2,e⟩,hlt,hs =>
    ⟨p,q,by
      obtain ⟨n,hn⟩:=h1.respare K hz (hT _ (List.mem_cons.2 (Or.inl rfl))) (fun x hx=>hs x (by rw [e]; exact List.mem_append_left _ hx))
      exact ⟨n,DataW.trod_carry n _ _ _ hn (fun x hx=>vf hl (hlt x (by rw [e]; exact List.mem_append_left _ hx)))⟩,
      nW K hz hl (fun t ht=>hT t (List.mem_cons.2 (Or.inr ht))) h2 (fun x hx=>hlt x (by rw [e]; exact List.mem_append_right _ hx)) (fun x hx=>hs x (by rw [e]; exact List.mem_append_right _ hx)),e⟩
theorem pS {f:Func} {s:ChangeSpec} {apart fresh handsOn again:Bool} {args:Array Value} {v:Value} {ds gs:List (DataW H)} {before pa pv:List MemPlace}
    (hW:DataW.Whole enc P f.params.toList s.vars apart W args.toList ds gs before)
    (hres:∀ (b:Nat) (sp:Nat→Bool) (hd:Bool),DataW.TrodAll enc P W' b sp hd f.resultTypes.toList (v.resultList f.resultTypes.size) (s.fn H (ds++gs)).results [])
    (hargs:∀ sp:Nat→Bool,(∀ p∈before,sp p.block=true)→DataW.TrodAll enc P W' 0 sp true f.params.toList args.toList (s.fn H (ds++gs)).args pa)
    (hvars:∀ sp:Nat→Bool,(∀ p∈before,sp p.block=true)→DataW.TrodVars enc P W' sp s.vars (s.fn H (ds++gs)).vars pv)
    (hps:before=pa++pv) (hl:PK.Later W W')
    (hok:∀ (j:Nat) (t:TypeId) (r:Value),f.resultTypes[j]?=some t→(v.resultList f.resultTypes.size)[j]?=some r→Value.okWide P W' .any 0 t r) :
    s.post enc P f apart fresh handsOn again W args v W':=by
  have hold:∀ p∈before,(fun b=>decide (b < W.heap.size)) p.block=true:=fun p hp=>by simpa using hW.lt p hp
  have hlt:=fun p hp=>hW.lt p hp
  refine ⟨ds,gs,before,[],pa,pv,hW,hres _ _ _,hargs _ hold,hvars _ hold,hl.frame _,fun _=>?_⟩
  · obtain ⟨_,_,_,_,_,hz,hn⟩:=hW
    refine ⟨hok,_,_,([]++pa)++pv,⟨[]++pa,pv,trodAll_append (hargs _ (fun _ _=>rfl)) (hres _ _ _),hvars _ (fun _ _=>rfl),rfl,?_,?_⟩,?_⟩
    · intro b off hp
      have hp':=hp
      rw [List.nil_append,← hps] at hp'
      rw [Below.frozen hl (hlt _ hp')]
      exact hz b off hp'
    · intro ha
      have:=hn ha
      rw [hps] at this
      simpa using this
    · intro p hp _
      rw [hps]
      simpa using hp
theorem post_true {f:Func} {s:ChangeSpec} {apart fresh handsOn again:Bool} {args:Array Value} {ds:List (DataW H)} {before:List MemPlace} {tb:TypeId}
    (hK:laidOutB P=true) (hm:mapsRowed P=true) (hsl:((List.range P.types.size).all fun t=>match P.underlying t with | some (.slice e)=>decide (0 < P.cellsOf e) | _=>true)=true)
    (hts:(f.params.toList.all fun t=>decide (t < P.types.size))=true) (hrt:f.resultTypes=#[tb]) (hb:P.underlying tb=some .bool) (hv:s.vars=[])
    (hW:DataW.Whole enc P f.params.toList s.vars apart W args.toList ds [] before) (hfn:s.fn H ds={ results:=[.lit (.bool true)],args:=ds }) (hl:PK.Later W W') :
    s.post enc P f apart fresh handsOn again W args (.bool true) W':=by
  have hW':=hW
  have hlt:∀ p∈before,p.block < W.heap.size:=fun p hp=>hW.lt p hp
  obtain ⟨p,q,hA,hV,hpq,hfz,hnd⟩:=hW
  rw [hv] at hV
  obtain ⟨_,rfl⟩:=trodVars_none hV
  rw [List.append_nil] at hpq
  subst hpq
  refine pS (pa:=before) (pv:=[]) hW' (fun _ _ _=>?_) (fun sp hsp=>?_) (fun _ _=>?_) (by simp) hl (ok_one hrt rfl (okWide_bool_mk hb _))
  · rw [List.append_nil,hfn,hrt]; exact trodAll_cons_mk (shut_bool hb _) trodAll_mk0
  · rw [List.append_nil,hfn]
    exact nW (kids_rows hK hm) (slices_full_of P hsl) hl (fun t ht=>of_decide_eq_true (List.all_eq_true.1 hts t ht)) hA hlt hsp
  · rw [List.append_nil,hfn,hv]; exact rfl
structure Rdr {α:Type} (P:Program) (t:TypeId) (T:Ty α):Prop where
  size:P.cellsOf t=T.size
  pos:0 < T.size
  rd:∀ {H:Type} {enc:TypeId×Value→H} {w:World} {base:Nat} {sp:Nat→Bool} {held:Bool} {fuel:Nat} {cs:List Value} {x:DataW H×List MemPlace},DataW.trod enc P w base sp held fuel t cs=some x→∃ y,T.rd (fun _=>True) w cs y
theorem wf_in64 {n:Int} (h:(Lit.int .i64 n).wf=true):aj n:=by
  simp only [Lit.wf,Bool.and_eq_true,decide_eq_true_eq] at h
  have h1:IntKind.i64.min=-9223372036854775808:=by decide
  have h2:IntKind.i64.max=9223372036854775807:=by decide
  unfold aj; omega
def i8:Ty Int where
  size:=1
  rd:=fun _ _ cs x=>cs=[.int .i64 x]∧aj x
  len:=fun h=>by rw [h.1]; rfl
  keep:=fun h _=>h
theorem wE {t:TypeId} (ht:P.underlying t=some (.int .i64)) (hc:P.cellsOf t=1):Rdr P t i8 :=
  ⟨hc,Nat.one_pos,fun h=>by obtain ⟨n,rfl,_,hw⟩:=DataW.trod_int ht h; exact ⟨n,rfl,wf_in64 hw⟩⟩
theorem trod_rd {α:Type} {T:Ty α} {t e:TypeId} {fuel base:Nat} {sp:Nat→Bool} {held:Bool} {w:World} {cs:List Value} {x:DataW H×List MemPlace} (ht:P.underlying t=some (.slice e)) (R:Rdr P e T) (h:DataW.trod enc P w base sp held fuel t cs=some x) :
    ∃ v xs,cs=[v]∧ab T (fun _=>True) w v xs∧∃ a l c,v=.slice a l c:=by
  rcases Go.Deep.open_slice ht h with ⟨rfl,_⟩ | ⟨a,len,cap,m,n,D,Pl,rfl,hb,hl,hm,hmm,_,hx⟩
  · exact ⟨_,[],rfl,⟨none,0,rfl,Nat.le_refl _,Nat.zero_le _,fun h=>by simp at h⟩,_,_,_,rfl⟩
  · have hlm:len≤m:=by rw [hmm]; split <;> omega
    have hx':∀ i,i < len→∃ p:List Value×α,w.cells? base (a.add (i*P.cellsOf e)) (P.cellsOf e)=some p.1∧T.rd (fun _=>True) w p.1 p.2:=fun i hi=>by
      obtain ⟨cs',h1,h2⟩:=hx i (by omega)
      obtain ⟨y,hy⟩:=R.rd h2
      exact ⟨⟨cs',y⟩,h1,hy⟩
    rcases Nat.eq_zero_or_pos len with h0 | h0
    · subst h0
      exact ⟨_,[],rfl,⟨some a,cap,rfl,Nat.zero_le _,Nat.zero_le _,fun h=>by simp at h⟩,_,_,_,rfl⟩
    · have hspot:a.spot=none:=by
        obtain ⟨p,h1,h2⟩:=hx' 0 h0
        have hpl:0 < P.cellsOf e:=by rw [R.size]; exact R.pos
        unfold World.cells? at h1
        split at h1
        · have:=mapM_some_get h1 0 0 (by rw [List.getElem?_range hpl])
          have hlen:p.1.length=P.cellsOf e:=by simpa using mapM_some_length h1
          rw [List.getElem?_eq_getElem (by omega)] at this
          have e0:(a.add (0*P.cellsOf e)).add 0=a:=by simp [Addr.add]
          rw [e0] at this
          unfold World.cell? at this
          split at this
          · split at this
            · cases this
            · rename_i hns; simpa using hns
          · cases this
        · cases h1
      obtain ⟨b,off,sp'⟩:=a
      simp only at hspot
      subst hspot
      let F:(i:Nat)→(i < len)→List Value×α:=fun i hi=>(hx' i hi).choose
      have hF:∀ i (hi:i < len),w.cells? base ((⟨b,off,none⟩:Addr).add (i*P.cellsOf e)) (P.cellsOf e)=some (F i hi).1∧T.rd (fun _=>True) w (F i hi).1 (F i hi).2:=fun i hi=>(hx' i hi).choose_spec
      refine ⟨_,List.ofFn (fun i:Fin len=>(F i.1 i.2).2),rfl,⟨_,cap,by rw [List.length_ofFn],by rw [List.length_ofFn]; exact hl,by rw [List.length_ofFn]; unfold maxLen at hm; omega,fun _=>⟨b,off,rfl,trivial,?_,fun j hj=>?_⟩⟩,_,_,_,rfl⟩
      · obtain ⟨h1,h2⟩:=hF 0 h0
        have hpl:0 < P.cellsOf e:=by rw [R.size]; exact R.pos
        unfold World.cells? at h1
        split at h1
        · have:=mapM_some_get h1 0 0 (by rw [List.getElem?_range hpl])
          have hlen:(F 0 h0).1.length=P.cellsOf e:=by simpa using mapM_some_length h1
          rw [List.getElem?_eq_getElem (by omega)] at this
          have:=eu this
          simpa [Addr.add] using this
        · cases h1
      · have hj':j < len:=by simpa using hj
        obtain ⟨h1,h2⟩:=hF j hj'
        refine ⟨(F j hj').1,fun i hi=>?_,by simpa using h2⟩
        unfold World.cells? at h1
        split at h1
        · have hlen:(F j hj').1.length=P.cellsOf e:=by simpa using mapM_some_length h1
          have:=mapM_some_get h1 i i (by rw [List.getElem?_range (by omega)])
          rw [List.getElem?_eq_getElem hi,jh,jh,R.size] at this
          exact this
        · cases h1
end
section
variable {H:Type} {enc:TypeId×Value→H} {P:Program} {W:World} {base b0:Nat} {sp:Nat→Bool} {held:Bool} {r:Reach} {t e:TypeId} {v:Value} {d:DataW H} {ps:List MemPlace}
theorem top_slice {α:Type} {T:Ty α} (ht:P.underlying t=some (.slice e)) (R:Rdr P e T) (hval:Value.okWide P W r b0 t v) (h:DataW.Trod enc P W base sp held t v d ps):∃ xs,ab T (fun _=>True) W v xs:=by
  obtain ⟨n,hn⟩:=h
  obtain ⟨v',xs,hc,hrd,a,l,c,rfl⟩:=trod_rd ht R hn
  have:v=.slice a l c:=by
    cases v <;> simp_all [Value.okWide,Cell.okWide,Cell.ok,Value.cells]
  subst this
  exact ⟨xs,hrd⟩
end
end Go.PK

namespace Go.PK
open Go Go.ChangeShapes Go.WideShapes Go.ChangeAt Go.RowKit
section
variable {H:Type} {enc:TypeId×Value→H} {P:Program} {W:World} {base b0:Nat} {sp:Nat→Bool} {held:Bool} {r:Reach} {t e:TypeId} {v:Value} {d:DataW H} {ps:List MemPlace}
end
end Go.PK

namespace Go.PK
open Go Go.RowKit
def wF:Ty Unit where
  size:=0
  rd:=fun _ _ cs _=>cs=[]
  len:=fun h=>by rw [h]; rfl
  keep:=fun h _=>h
def jP {α β:Type} (T:Ty α) (U:Ty β):Ty (α×β) where
  size:=T.size+U.size
  rd:=fun D w cs x=>∃ a b,cs=a++b∧T.rd D w a x.1∧U.rd D w b x.2
  len:=fun ⟨a,b,h,h1,h2⟩=>by rw [h,List.length_append,T.len h1,U.len h2]
  keep:=fun ⟨a,b,h,h1,h2⟩ k=>⟨a,b,h,T.keep h1 k,U.keep h2 k⟩
def Ty.map {α β:Type} (T:Ty α) (f:α→β):Ty β where
  size:=T.size
  rd:=fun D w cs y=>∃ x,T.rd D w cs x∧f x=y
  len:=fun ⟨x,h,_⟩=>T.len h
  keep:=fun ⟨x,h,e⟩ k=>⟨x,T.keep h k,e⟩
def tyK (k:IntKind):Ty Int where
  size:=1
  rd:=fun _ _ cs x=>cs=[.int k x]∧k.min≤x∧x≤k.max
  len:=fun h=>by rw [h.1]; rfl
  keep:=fun h _=>h
def ql {α:Type} (T:Ty α):Nat→Ty (List α)
  | 0=>wF.map fun _=>[]
  | n+1=>(jP T (ql T n)).map fun p=>p.1::p.2
theorem kO {α:Type} (T:Ty α):∀ n,(ql T n).size=n*T.size
  | 0=>by rw [Nat.zero_mul]; rfl
  | n+1=>by
    show T.size+(ql T n).size=_
    rw [kO T n,Nat.succ_mul,Nat.add_comm]
theorem arr_k {k:IntKind} {D:Nat→Prop} {w:World}:∀ {n:Nat} {cs:List Value} {xs:List Int},(ql (tyK k) n).rd D w cs xs→cs=xs.map (Value.int k)∧xs.length=n∧∀ x∈xs,k.min≤x∧x≤k.max
  | 0,cs,xs,h=>by
    obtain ⟨x,h1,h2⟩:=h
    subst h2
    exact ⟨h1,rfl,by simp⟩
  | n+1,cs,xs,h=>by
    obtain ⟨⟨a,aas⟩,⟨ca,cb,h0,h1,h2⟩,h3⟩:=h
    obtain ⟨h4,h5,h6⟩:=arr_k h2
    obtain ⟨h1,hb⟩:ca=[.int k a]∧k.min≤a∧a≤k.max:=h1
    subst h3
    dsimp only at h4 h5 h6
    refine ⟨by rw [h0,h1,h4]; rfl,by simp [h5],fun x hx=>?_⟩
    rcases List.mem_cons.1 hx with rfl | hx
    · exact hb
    · exact h6 x hx
section
variable {P:Program}
theorem wf_k {k:IntKind} {n:Int} (h:(Lit.int k n).wf=true):k.min≤n∧n≤k.max:=by
  simpa only [Lit.wf,Bool.and_eq_true,decide_eq_true_eq] using h
theorem rdr_k {t:TypeId} {k:IntKind} (ht:P.underlying t=some (.int k)) (hc:P.cellsOf t=1):Rdr P t (tyK k) :=
  ⟨hc,Nat.one_pos,fun h=>by obtain ⟨n,rfl,_,hw⟩:=DataW.trod_int ht h; exact ⟨n,rfl,wf_k hw⟩⟩
theorem arr_of {α:Type} {T:Ty α} {w:World}:∀ (n:Nat) (cs:List Value),cs.length=n*T.size→(∀ i,i < n→∃ y,T.rd (fun _=>True) w ((cs.drop (i*T.size)).take T.size) y)→∃ ys,(ql T n).rd (fun _=>True) w cs ys
  | 0,cs,hl,_=>⟨[],(),List.eq_nil_of_length_eq_zero (by rw [hl,Nat.zero_mul]),rfl⟩
  | n+1,cs,hl,h=>by
    obtain ⟨y,hy⟩:=h 0 (Nat.succ_pos n)
    rw [Nat.zero_mul,List.drop_zero] at hy
    obtain ⟨ys,hys⟩:=arr_of (T:=T) (w:=w) n (cs.drop T.size) (by rw [List.length_drop,hl,Nat.succ_mul]; omega) (fun i hi=>by
      obtain ⟨z,hz⟩:=h (i+1) (by omega)
      rw [Nat.succ_mul,Nat.add_comm,← List.drop_drop] at hz
      exact ⟨z,hz⟩)
    exact ⟨y::ys,(y,ys),⟨_,_,(List.take_append_drop T.size cs).symm,hy,hys⟩,rfl⟩
theorem rdr_arr {α:Type} {T:Ty α} {t e:TypeId} {n:Nat} (ht:P.underlying t=some (.array n e)) (hc:P.cellsOf t=n*T.size) (hn:0 < n) (R:Rdr P e T):Rdr P t (ql T n) :=
  ⟨by rw [kO]; exact hc,by rw [kO]; exact Nat.mul_pos hn R.pos,@fun H enc w base sp held fuel cs x h=>by
    obtain ⟨xs,m,_,_,hl,hx,hh⟩:=DataW.trod_array ht h
    refine arr_of n cs (by rw [hl,hc]) fun i hi=>?_
    have h1:=hh i hi
    rw [List.getElem?_eq_getElem (by omega),R.size] at h1
    exact R.rd h1⟩
inductive Flds (P:Program):Nat→List Field→(β:Type)→Ty β→Prop where
  | nil (off:Nat):Flds P off [] Unit wF
  | cons {α β:Type} {T:Ty α} {U:Ty β} {off:Nat} {f:Field} {fs:List Field} (ho:f.offset=off) (R:Rdr P f.type T) (h:Flds P (off+T.size) fs β U):Flds P off (f::fs) (α×β) (jP T U)
theorem flds_of {H:Type} {enc:TypeId×Value→H} {w:World} {base m:Nat} {sp:Nat→Bool} {held:Bool} {cs:List Value} {off:Nat} {fs:List Field} {β:Type} {U:Ty β} (F:Flds P off fs β U) :
    (∀ f∈fs,∃ x,DataW.trod enc P w base sp held m f.type ((cs.drop f.offset).take (P.cellsOf f.type))=some x)→cs.length=off+U.size→∃ y,U.rd (fun _=>True) w (cs.drop off) y:=by
  induction F with
  | nil off=>exact fun _ hl=>⟨(),List.drop_eq_nil_of_le (by rw [hl]; exact Nat.le_refl _)⟩
  | @cons α β T U off f fs ho R F ih =>
    intro h hl
    have hl:cs.length=off+(T.size+U.size):=hl
    obtain ⟨y,hy⟩:=ih (fun g hg=>h g (List.mem_cons_of_mem _ hg)) (by omega)
    obtain ⟨x,hx⟩:=h f (List.mem_cons_self ..)
    rw [ho,R.size] at hx
    obtain ⟨z,hz⟩:=R.rd hx
    refine ⟨(z,y),_,_,(List.take_append_drop T.size _).symm,hz,?_⟩
    rw [List.drop_drop]
    exact hy
theorem vg {t:TypeId} {fs:Array Field} {β:Type} {U:Ty β} (ht:P.underlying t=some (.struct fs)) (hc:P.cellsOf t=U.size) (hp:0 < U.size) (F:Flds P 0 fs.toList β U):Rdr P t U :=
  ⟨hc,hp,@fun H enc w base sp held fuel cs x h=>by
    obtain ⟨xs,m,_,_,hl,hx,hh⟩:=DataW.trod_struct ht h
    have:=flds_of (enc:=enc) (base:=base) (sp:=sp) (held:=held) (m:=m) (cs:=cs) (w:=w) F (fun f hf=>by
      obtain ⟨i,hi,rfl⟩:=List.mem_iff_getElem.1 hf
      have h1:=hh i fs.toList[i] (by simp)
      have hi':i < fs.size:=by simpa using hi
      rw [List.getElem?_eq_getElem (by omega)] at h1
      exact ⟨_,h1⟩) (by rw [hl,hc]; omega)
    simpa using this⟩
variable {H:Type} {enc:TypeId×Value→H} {W:World} {base b0:Nat} {sp:Nat→Bool} {held:Bool} {r:Reach} {t e:TypeId} {v:Value} {d:DataW H} {ps:List MemPlace}
theorem top_rd {α:Type} {T:Ty α} (R:Rdr P t T) (h:DataW.Trod enc P W base sp held t v d ps):∃ y,T.rd (fun _=>True) W v.cells.toList y:=by
  obtain ⟨n,hn⟩:=h
  exact R.rd hn
theorem top_agg {α:Type} {T:Ty α} {td:TypeDesc} (ht:P.underlying t=some td) (hd:jD td=true) (R:Rdr P t T) (hval:Value.okWide P W r b0 t v) (h:DataW.Trod enc P W base sp held t v d ps):∃ cs y,v=.agg cs∧T.rd (fun _=>True) W cs.toList y:=by
  obtain ⟨y,hy⟩:=top_rd R h
  have hv:∃ cs,v=.agg cs:=by
    unfold Value.okWide at hval
    rw [ht] at hval
    cases td <;> simp_all [jD]
    all_goals (obtain ⟨cs,h,_⟩:=hval; exact ⟨cs,h⟩)
  obtain ⟨cs,rfl⟩:=hv
  exact ⟨cs,y,rfl,hy⟩
end
end Go.PK

namespace Go.PK
open Go Go.RowKit
section
variable {P:Program} {n:Nat} {l:List (Nat×Value)} {own:List (Nat×Obj)} {ro:List av} {ty:TypeId} {x:Operand}
theorem eI {vs:Array Value} {i:Nat} {v:Value} (hx:ev l x=some (.tuple vs)) (hv:vs[i]?=some v):cx P n l own ro (.extract x i) ty v:=by
  intro A w o ha _ ho _
  simp [execOp,ho,ha.eval hx,Instr.extract,hv]
end
end Go.PK

namespace Go.PK
open Go Go.RowKit
def qm (y:Int):Bool:=decide (y%4=0) && (decide (y%100≠0) || decide (y%400=0))
def tC (y m:Int):Int:=if m=4∨m=6∨m=9∨m=11 then 30 else if m=2 then (if qm y=true then 29 else 28) else 31
def NY (y:Int):Int:=-719162+365*(y - 1)+(y - 1) / 4 - (y - 1) / 100+(y - 1) / 400
def lD (y:Int):Nat→Int
  | 0=>0
  | k+1=>lD y k+tC y ((k+1:Nat):Int)
theorem leap_iff (y:Int):qm y=true↔y%4=0∧(y%100≠0∨y%400=0):=by simp [qm]
theorem mlen_rng (y m:Int):28≤tC y m∧tC y m≤31:=by unfold tC; split <;> (try split) <;> (try split) <;> omega
theorem wG {y:Int}:NY (y+1)=NY y+(if qm y=true then 366 else 365):=by
  have h:=leap_iff y
  unfold NY
  split
  · rename_i hl; have:=h.1 hl; omega
  · rename_i hl
    have:¬(y%4=0∧(y%100≠0∨y%400=0)):=fun x=>hl (h.2 x)
    omega
theorem moff12 (y:Int):lD y 12=if qm y=true then 366 else 365:=by
  simp only [lD,tC]
  cases qm y <;> simp
theorem NY_next (y:Int):NY (y+1)=NY y+lD y 12:=by rw [wG,moff12]
theorem NY_lt (y:Int):NY y+365≤NY (y+1):=by rw [wG]; split <;> omega
theorem wH (y:Int):∀ n:Nat,NY y≤NY (y+n)
  | 0=>by simp
  | n+1=>by
    have h1:=wH y n
    have h2:=NY_lt (y+n)
    have e:y+((n+1:Nat):Int)=y+n+1:=by omega
    rw [e]; omega
theorem NY_le {y z:Int} (h:y≤z):NY y≤NY z:=by
  have:=wH y (z - y).toNat
  rwa [show y+(((z - y).toNat:Nat):Int)=z by omega] at this
theorem qo (y:Int) (k:Nat):∀ n:Nat,lD y k≤lD y (k+n)
  | 0=>Int.le_refl _
  | n+1=>by
    have h1:=qo y k n
    have h2:=mlen_rng y ((k+n+1:Nat):Int)
    show lD y k≤lD y (k+n)+tC y ((k+n+1:Nat):Int)
    omega
theorem wI {y:Int} {k m:Nat} (h:k≤m):lD y k≤lD y m:=by
  have:=qo y k (m - k)
  rwa [show k+(m - k)=m by omega] at this
theorem tD (y:Int) (k:Nat):0≤lD y k:=wI (Nat.zero_le k)
def dayN (y:Int) (m:Nat) (d:Int):Int:=NY y+d - 1+lD y (m - 1)
structure Civ (day y:Int) (m:Nat) (d:Int):Prop where
  y1:1≤y
  m1:1≤m
  m2:m≤12
  d1:1≤d
  d2:d≤tC y m
  is:dayN y m d=day
theorem yq (y:Int) {m:Nat} (h:1≤m):lD y m=lD y (m - 1)+tC y m:=by
  obtain ⟨k,rfl⟩:∃ k,m=k+1:=⟨m - 1,by omega⟩
  rfl
theorem Civ.year {day y d:Int} {m:Nat} (h:Civ day y m d):NY y≤day∧day < NY (y+1):=by
  have h1:=tD y (m - 1)
  have h2:=yq y h.m1
  have h3:=wI (y:=y) h.m2
  have h4:=NY_next y
  have:=h.is; have:=h.d1; have:=h.d2
  unfold dayN at this
  have e:=h.is
  unfold dayN at e
  omega
def lE (day:Int):Prop:=-719162≤day∧day≤2932896
instance (day:Int):Decidable (lE day):=by unfold lE; infer_instance
theorem NY_first:NY 1=-719162:=by decide
theorem wJ:NY 10000=2932897:=by decide
theorem Civ.range {day y d:Int} {m:Nat} (h:Civ day y m d):lE day↔y≤9999:=by
  have a:=h.year
  constructor
  · intro hd
    rcases Int.lt_or_le y 10000 with hl | hl
    · omega
    · have:=NY_le hl; rw [wJ] at this; unfold lE at hd; omega
  · intro hy
    have h1:=NY_le h.y1
    have h2:=NY_le (show y+1≤10000 by omega)
    rw [NY_first] at h1
    rw [wJ] at h2
    unfold lE; omega
end Go.PK

namespace Go.PK
open Go Go.RowKit
end Go.PK

namespace Go.PK
open Go Go.RowKit
theorem fW {D:Nat→Prop} {w:World} {A:Option Addr} {l c:Nat} {xs:List Int} (h:ab i8 D w (.slice A l c) xs) {k:Nat} (hk:k < xs.length) :
    ∃ b off,A=some ⟨b,off,none⟩∧D b∧w.cell? ⟨b,off+k,none⟩=some (.int .i64 xs[k])∧aj xs[k]:=by
  obtain ⟨A',c',e,h1,h2,h3⟩:=h
  injection e with e1 e2 e3
  obtain ⟨b,off,hA,hD,hb,hc⟩:=h3 (by omega)
  obtain ⟨cs,hcs,rfl,hok⟩:=hc k hk
  have:=hcs 0 (by simp)
  exact ⟨b,off,e1.trans hA,hD,by simpa [i8] using this,hok⟩
end Go.PK

namespace Go.PK
open Go Go.RowKit
section
variable {P:Program} {n:Nat} {l:List (Nat×Value)} {own:List (Nat×Obj)} {ro:List av} {ty:TypeId} {x y:Operand} {t t':TypeId} {k k':IntKind} {a b:Int}
theorem kG {tys:Array TypeId} (hx:ev l x=some (.int k a)) (hy:ev l y=some (.int k' b)):cx P n l own ro (.call ⟨.builtin .max,#[x,y],tys⟩) ty (.int k (max a b)):=by
  intro A w o ha _ ho _
  have e:(if a < b then b else a)=max a b:=by omega
  simp [execOp,ho,resolve,invoke,builtin,ha.eval hx,ha.eval hy,Builtin.max_,Builtin.max2,e]
theorem tG {tys:Array TypeId} (hx:ev l x=some (.int k a)) (hy:ev l y=some (.int k' b)):cx P n l own ro (.call ⟨.builtin .min,#[x,y],tys⟩) ty (.int k (min a b)):=by
  intro A w o ha _ ho _
  have e:(if b < a then b else a)=min a b:=by omega
  simp [execOp,ho,resolve,invoke,builtin,ha.eval hx,ha.eval hy,Builtin.min_,Builtin.min2,e]
theorem v_shr (hx:ev l x=some (.int k a)) (hy:ev l y=some (.int k' b)) (h0:0≤b) {c:Int} (hc:a / 2 ^ min b.toNat k.bits=c):cx P n l own ro (.binOp .shr t x y t') ty (.int k c):=by
  intro A w o ha _ ho _
  have hp:(0:Int)≤2 ^ min b.toNat k.bits:=Int.pow_nonneg (by decide)
  have h1:¬ b < 0:=by omega
  simp [execOp,ho,ha.eval hx,ha.eval hy,eqGuard,binOp,Op.shift,h1,Int.fdiv_eq_ediv_of_nonneg _ hp,hc]
theorem v_shl (hx:ev l x=some (.int k a)) (hy:ev l y=some (.int k' b)) (h0:0≤b) {c:Int} (hc:k.wrap (a*2 ^ min b.toNat k.bits)=c):cx P n l own ro (.binOp .shl t x y t') ty (.int k c):=by
  intro A w o ha _ ho _
  have h1:¬ b < 0:=by omega
  simp [execOp,ho,ha.eval hx,ha.eval hy,eqGuard,binOp,Op.shift,h1,hc]
def andK (k:IntKind) (a b:Int):Int:=k.wrap (BitVec.ofInt k.bits a &&& BitVec.ofInt k.bits b).toNat
def orK (k:IntKind) (a b:Int):Int:=k.wrap (BitVec.ofInt k.bits a ||| BitVec.ofInt k.bits b).toNat
def yr (k:IntKind) (a b:Int):Int:=k.wrap (BitVec.ofInt k.bits a ^^^ BitVec.ofInt k.bits b).toNat
def lF (k:IntKind) (a b:Int):Int:=k.wrap (BitVec.ofInt k.bits a &&& ~~~BitVec.ofInt k.bits b).toNat
theorem v_andK (hx:ev l x=some (.int k a)) (hy:ev l y=some (.int k b)):cx P n l own ro (.binOp .and t x y t') ty (.int k (andK k a b)):=by
  intro A w o ha _ ho _
  simp [execOp,ho,ha.eval hx,ha.eval hy,eqGuard,binOp,Op.intBits,andK]
theorem v_orK (hx:ev l x=some (.int k a)) (hy:ev l y=some (.int k b)):cx P n l own ro (.binOp .or t x y t') ty (.int k (orK k a b)):=by
  intro A w o ha _ ho _
  simp [execOp,ho,ha.eval hx,ha.eval hy,eqGuard,binOp,Op.intBits,orK]
theorem v_xorK (hx:ev l x=some (.int k a)) (hy:ev l y=some (.int k b)):cx P n l own ro (.binOp .xor t x y t') ty (.int k (yr k a b)):=by
  intro A w o ha _ ho _
  simp [execOp,ho,ha.eval hx,ha.eval hy,eqGuard,binOp,Op.intBits,yr]
theorem yt (hx:ev l x=some (.int k a)) (hy:ev l y=some (.int k b)):cx P n l own ro (.binOp .andNot t x y t') ty (.int k (lF k a b)):=by
  intro A w o ha _ ho _
  simp [execOp,ho,ha.eval hx,ha.eval hy,eqGuard,binOp,Op.intBits,lF]
end
end Go.PK

namespace Go.PK
open Go Go.RowKit
theorem rowI_T {D:Nat→Prop} {ws:World} {r:ak} {ds:List Int} {n:Nat} (hr:ag 1 r n (ds.map (Value.int .i64))) (hn:n=ds.length) (hin:∀ d∈ds,aj d):cZ i8 D ws r ds:=by
  subst hn
  refine ⟨ds.map fun d=>[.int .i64 d],by simp,?_,fun j h1 h2=>?_⟩
  · have e:(ds.map fun d=>[Value.int .i64 d]).flatten=ds.map (Value.int .i64):=by
      clear hr hin
      induction ds with
      | nil=>rfl
      | cons x xs ih=>simp [ih]
    rw [e]; exact hr
  · rw [List.getElem_map]
    exact ⟨rfl,hin _ (List.getElem_mem h2)⟩
theorem dy {D:Nat→Prop} {w:World} {own:List (Nat×Obj)} {ro:List av} {e:TypeId} {r:ak} {ds:List Int} {n:Nat} (hr:ag 1 r n (ds.map (Value.int .i64))) (hn:n=ds.length) (hi:∀ d∈ds,aj d)
    (hm:Mem w own ro) (hin:∀ p∈aA e r,p∈own) (hD:∀ p∈aA e r,D p.1):ab i8 D w (au r n) ds :=
  (rowI_T (D:=fun _=>False) (ws:=w) hr hn hi).rd hm hin (fun _ h=>h.elim) hD hn
end Go.PK

namespace Go.PK
open Go Go.RowKit
def ea (bs:List UInt8):List Value:=bs.map fun c=>.int .u8 c.toNat
theorem rD (bs:List UInt8):(ea bs).length=bs.length:=by simp [ea]
theorem rE {bs:List UInt8} {j:Nat} (h:j < bs.length):(ea bs)[j]?=some (.int .u8 bs[j].toNat):=by simp [ea,h]
def rG (z:Int):UInt8:=UInt8.ofNat (z%256).toNat
theorem yu (z:Int):IntKind.u8.wrap z=((rG z).toNat:Nat):=by
  unfold rG
  rw [IntKind.wrap_u8,UInt8.toNat_ofNat_of_lt' (by show _ < 256; omega)]
  omega
theorem yc (P:Program) (g o:Nat) (t:TypeId) (fz:Nat×Nat):∀ (vs:List Value) (i:Nat) (cur:Array Value) (w:World),w.heap[g]?=some (.cells cur t fz)→o+i+vs.length≤fz.1→o+i+vs.length≤cur.size→(∀ v∈vs,v.oneCell'=true) →
    (storeCells ⟨g,o,none⟩ vs i).run P w=.ok () (w.setRow g (cur.toList.take (o+i)++vs++cur.toList.drop (o+i+vs.length)).toArray)
  | [],i,cur,w,hg,_,_,_=>by
    simp only [storeCells,List.append_nil,List.length_nil,Nat.add_zero,List.take_append_drop,Array.toArray_toList]
    rw [setRow_self w g cur t fz hg]
    rfl
  | v::rest,i,cur,w,hg,hfz,hl,h1=>by
    have hi:o+i < cur.size:=by simp at hl; omega
    have hadd:(⟨g,o,none⟩:Addr).add i=⟨g,o+i,none⟩:=by unfold Addr.add; split <;> simp_all
    have hcell:w.cell? ⟨g,o+i,none⟩=some cur[o+i]:=by simp [World.cell?,hg,hi]
    have hfro:w.frozen? ⟨g,o+i,none⟩=false:=by
      obtain ⟨lo,hi'⟩:=fz
      simp only [World.frozen?,hg,Bool.and_eq_false_iff,decide_eq_false_iff_not]
      left
      simp only [List.length_cons] at hfz
      omega
    have hst:(store ((⟨g,o,none⟩:Addr).add i) v).run P w=.ok () (w.setRow g (cur.setIfInBounds (o+i) v)):=by
      rw [hadd,run_store P w _ v _ (h1 v (by simp)),hcell]
      simp [hfro,setCell_eq_setRow w g (o+i) cur t fz v hg]
    have ih:=yc P g o t fz rest (i+1) (cur.setIfInBounds (o+i) v) (w.setRow g (cur.setIfInBounds (o+i) v)) (setRow_heap w g cur _ t _ hg) (by simp at hfz; omega) (by simp at hl ⊢; omega) (fun x hx=>h1 x (by simp [hx]))
    simp only [storeCells,Sem.run_bind,hst,Result.andThen_ok,ih,setRow_setRow]
    congr 3
    have e:=list_seg_step cur.toList (o+i) v rest (by simp at hl ⊢; omega)
    simpa [Array.toList_setIfInBounds,Nat.add_assoc] using e
theorem zJ {w:World} {g:Nat} {cs cs':Array Value} {e:TypeId} {fz:Nat×Nat} (h:w.heap[g]?=some (.cells cs e fz)):Turned w (w.setRow g cs') g (.cells cs' e fz) where
  os:=rfl
  tape:=rfl
  output:=rfl
  size:=by simp [World.setRow]
  at_:=setRow_heap w g cs cs' e fz h
  other:=fun k hk=>by
    simp only [World.setRow,Array.getElem?_modify]
    rw [if_neg (fun e=>hk e.symm)]
section
variable {P:Program} {n:Nat} {l:List (Nat×Value)} {own:List (Nat×Obj)} {ro:List av} {lops:List Oper} {Q:Exit→Act→World→Prop} {K:Act→World→Prop}
  {rest:List (Option Bool×Nat)} {k:Option Bool} {i d:Nat} {ty t t':TypeId} {pos:String} {af:Array Edge} {x y:Operand} {b off:Nat}
theorem zQ {o:Oper} {v:Value} {l1 l2:List (Nat×Obj)} {cs:List Value} {e:TypeId} {m:Nat} {fz:Nat×Nat} (ho:lops[i]?=some o) (hgo:Go_ lops n l o) (hop:o.op=.store t x y) (hd0:o.dst=none) (hx:ev l x=some (.pointer (some ⟨b,off,none⟩))) (hy:ev l y=some v)
    (hs:(P.info? t).map (·.size)=some m) (hm:(decide (v.cells.size=m) && v.cells.toList.all (fun u=>u.oneCell'))=true) (hb:off+m≤cs.length) (hfz:off+m≤fz.1) (hown:own=l1++(b,.cells cs.toArray e fz)::l2)
    (h:WX P lops.toArray Q K rest n l (l1++(b,.cells (cs.take off++v.cells.toList++cs.drop (off+m)).toArray e fz)::l2) ro):WX P lops.toArray Q K ((none,i)::rest) n l own ro:=by
  subst hown
  intro a w ha hw
  simp only [Bool.and_eq_true,decide_eq_true_eq,List.all_eq_true] at hm
  obtain ⟨hm,h1⟩:=hm
  have hw1:=hgo a ha
  simp only [hJ,List.getElem?_toArray,ho]
  intro w' hl
  rw [if_pos hw1]
  have hM:=hw.later hl
  have hg:w'.heap[b]?=some (.cells cs.toArray e fz):=hM.own_at (b,_) (by simp)
  have hlen:v.cells.toList.length=m:=by simpa using hm
  have hst:=yc P b off e fz v.cells.toList 0 cs.toArray w' hg (by omega) (by simp only [List.size_toArray]; omega) h1
  have hst2:(storeVar t ⟨b,off,none⟩ v).run P w'=.ok () (w'.setRow b (cs.take off++v.cells.toList++cs.drop (off+m)).toArray):=by
    simp only [storeVar,Sem.run_bind,run_sizeOf hs,Result.andThen_ok,hm,ne_eq,not_true,if_false,hst,Nat.add_zero,hlen]
  unfold Oper.wp
  have hrun:(execOp a.eval o).run P w'=.ok .skip (w'.setRow b (cs.take off++v.cells.toList++cs.drop (off+m)).toArray):=by
    simp only [execOp,hop,ha.eval hx,ha.eval hy,Instr.storeAt,Instr.sureAddr,Sem.run_bind,Sem.run_pure,Result.andThen_ok,hst2]
  rw [hrun]
  show hJ P lops.toArray Q K rest (a.put o.dst undef) _
  rw [hd0]
  exact h a _ ha (hM.turn (zJ hg))
theorem x_storeT {v:Value} (l1:List (Nat×Obj)) {l2:List (Nat×Obj)} {cs:List Value} {e:TypeId} {m:Nat} {fz:Nat×Nat} (ho:lops[i]?=some ⟨none,.store t x y,ty,pos,af,none⟩) (hx:ev l x=some (.pointer (some ⟨b,off,none⟩))) (hy:ev l y=some v)
    (hown:own=l1++(b,.cells cs.toArray e fz)::l2) (hs:(P.info? t).map (·.size)=some m) (hm:(decide (v.cells.size=m) && v.cells.toList.all (fun u=>u.oneCell'))=true) (hb:off+m≤cs.length) (hfz:off+m≤fz.1)
    (h:WX P lops.toArray Q K rest n l (l1++(b,.cells (cs.take off++v.cells.toList++cs.drop (off+m)).toArray e fz)::l2) ro):WX P lops.toArray Q K ((none,i)::rest) n l own ro :=
  zQ ho (bU rfl) rfl rfl hx hy hs hm hb hfz hown h
theorem x_bytes {e:TypeId} {s:ByteArray} {u:TypeDesc} (ho:lops[i]?=some ⟨some d,.convert t t' x,ty,pos,af,none⟩) (hk:(k == some true)=false) (hd:decide (d < n)=true)
    (hs:P.underlying t=some u) (hd2:P.underlying t'=some (.slice e)) (he:P.underlying e=some (.int .u8)) (hx:ev l x=some (.string s))
    (h:∀ b cp (cs:List Value) fz,s.size≤cp→cs.take s.size=ea s.data.toList→WX P lops.toArray Q K rest n ((d,.slice (some ⟨b,0,none⟩) s.size cp)::l) ((b,.cells cs.toArray e fz)::own) ro):WX P lops.toArray Q K ((k,i)::rest) n l own ro:=by
  intro a w ha hw
  have hd':d < n:=of_decide_eq_true hd
  have hw1:=bU (lops:=lops) (n:=n) (l:=l) (o:=⟨some d,.convert t t' x,ty,pos,af,none⟩) rfl a ha
  simp only [hJ,List.getElem?_toArray,ho]
  have hlat:∀ w',Later w' (Lib.bytesWorld w' e s):=fun w'=>⟨rfl,rfl,rfl,by rw [Lib.bytesWorld_size]; omega,fun j hj=>Lib.bytesWorld_at_old w' e s j hj⟩
  have hrun:∀ w',(execOp a.eval ⟨some d,.convert t t' x,ty,pos,af,none⟩).run P w'=.ok (.value (.slice (some ⟨w'.heap.size,0,none⟩) s.size (grownCap w' s.size 0 e))) (Lib.bytesWorld w' e s):=fun w'=>by
    simp [execOp,ha.eval hx,Lib.run_convert_string_bytes w' t t' e s hs hd2 he]
  have key:∀ w',Later w w'→hJ P lops.toArray Q K rest (a.put (some d) (.slice (some ⟨w'.heap.size,0,none⟩) s.size (grownCap w' s.size 0 e))) (Lib.bytesWorld w' e s):=fun w' hl=>by
    have hM:=hw.later hl
    refine h _ _ (Lib.bytesCells w' e s).toList ((Lib.bytesCells w' e s).size,(Lib.bytesCells w' e s).size+1) (grownCap_ge _ _ _ _) ?_ _ _ (ha.put _ hd') ?_
    · unfold Lib.bytesCells ea
      have:(s.data.map fun b=>Value.int .u8 b.toNat).toList.length=s.size:=by simp
      rw [Array.toList_append,← this,List.take_left]
      simp
    · have hl2:=hlat w'
      have h2:=hM.later hl2
      refine ⟨fun p hp=>?_,?_,h2.ro_st,h2.ro_at,fun p hp s' hs' hdd=>?_⟩
      · rcases List.mem_cons.1 hp with rfl | hp
        · simpa using Lib.bytesWorld_at_new w' e s
        · exact h2.own_at p hp
      · simp only [List.map_cons,List.nodup_cons]
        refine ⟨fun hm=>?_,h2.own_nd⟩
        obtain ⟨p,hp,he'⟩:=List.mem_map.1 hm
        have:=hM.lt hp
        omega
      · rcases List.mem_cons.1 hp with rfl | hp
        · exact (hM.ro_st s' hs').2.2.2
        · exact h2.apart p hp s' hs' hdd
  cases k with
  | none =>
    intro w' hl
    rw [if_pos hw1]
    unfold Oper.wp
    rw [hrun]
    exact key w' hl
  | some b0 =>
    have:b0=false:=by cases b0 <;> simp_all
    subst this
    dsimp only
    rw [if_pos hw1]
    intro w' hl
    unfold Oper.wp
    rw [hrun]
    exact ⟨hlat w',key w' hl⟩
end
end Go.PK

namespace Go.PK
open Go Go.RowKit
structure BS where
  pp:Value
  v:Value
  o:List (Nat×Obj)
def bld (T:TypeId) (b:Nat) (x:BS):List (Nat×Obj):=(b,.cells #[x.pp,x.v] T (0,0))::x.o
structure BOK (e:TypeId) (B b:Nat) (l:List UInt8) (x:BS):Prop where
  le:B≤b
  pp:x.pp=.pointer none∨x.pp=.pointer (some ⟨b,0,none⟩)
  row:(x.v=.slice none 0 0∧l=[]∧x.o=[])∨∃ g cap cur fz,x.v=.slice (some ⟨g,0,none⟩) l.length cap∧x.o=[(g,.cells cur e fz)]∧B≤g∧fz.2≤l.length∧l.length≤cap∧cap≤maxLen∧cur.size=cap∧cur.toList.take l.length=ea l
theorem BOK.new {e:TypeId} {B b:Nat} (h:B≤b):BOK e B b [] ⟨.pointer none,.slice none 0 0,[]⟩:=⟨h,.inl rfl,.inl ⟨rfl,rfl,rfl⟩⟩
section
variable {T e:TypeId} {B b:Nat} {l:List UInt8} {x:BS} {w w':World} {l2:List (Nat×Obj)} {ro:List av}
theorem BOK.is (h:BOK e B b l x) (hm:Mem w (bld T b x++l2) ro):Lib.IsBuilderF T e B b (ea l) w:=by
  have hb:w.heap[b]?=some (.cells #[x.pp,x.v] T (0,0)):=hm.own_at (b,_) (by simp [bld])
  have key:w.ownsRowF B e 1 x.v (ea l).length (ea l)∧x.v.ownBlock≠some b:=by
    rw [rD]
    rcases h.row with ⟨h1,rfl,h3⟩ | ⟨g,cap,cur,fz,h1,h3,h4,h5,h6,h7,h8,h9⟩
    · rw [h1]; exact ⟨World.ownsRowF_nil ..,by simp [Value.ownBlock]⟩
    · have hg:w.heap[g]?=some (.cells cur e fz):=hm.own_at (g,_) (by simp [bld,h3])
      refine ⟨⟨by rw [rD,Nat.mul_one],.inr ⟨g,cap,cur,fz,h1,h4,hg,by omega,h6,h7,by omega,by rw [Nat.mul_one]; exact h9⟩⟩,?_⟩
      rw [h1]
      simp only [Value.ownBlock]
      intro he
      have hnd:=hm.own_nd
      simp only [bld,h3,List.cons_append,List.nil_append,List.map_cons,List.nodup_cons] at hnd
      exact hnd.1 (by simp at he; simp [he])
  rcases h.pp with hp | hp
  · exact .inl ⟨h.le,x.v,by rw [← hp]; exact hb,key⟩
  · exact .inr ⟨h.le,x.v,by rw [← hp]; exact hb,key⟩
end
theorem jj (a b:List UInt8):ea (a++b)=ea a++ea b:=by simp [ea]
end Go.PK

namespace Go.PK
open Go Go.RowKit
structure Sg where
  c:UInt8
  e:UInt8
  r:UInt8
  n:UInt8
deriving DecidableEq
def Sg.cells (g:Sg):List Value:=[.int .u8 g.c.toNat,.int .u8 g.e.toNat,.int .u8 g.r.toNat,.int .u8 g.n.toNat]
def bE (g:Sg) (s:ByteArray) (a:Nat):List Value:=[.int .u8 g.c.toNat,.int .u8 g.e.toNat,.int .u8 g.r.toNat,.int .u8 g.n.toNat,.string s,.int .i64 (a:Nat)]
def ef (c:UInt8):Bool:=decide (c=10) || decide (c=13) || decide (c=32)
theorem s5 {c k:UInt8}:(((c.toNat:Nat):Int)=((k.toNat:Nat):Int))↔c=k:=by
  constructor
  · intro h; exact UInt8.toNat_inj.1 (by omega)
  · rintro rfl; rfl
theorem j9 (c:UInt8):ef c=true↔(((c.toNat:Nat):Int)=10∨((c.toNat:Nat):Int)=13)∨((c.toNat:Nat):Int)=32:=by
  have h1:(((c.toNat:Nat):Int)=10)↔c=10:=s5 (k:=10)
  have h2:(((c.toNat:Nat):Int)=13)↔c=13:=s5 (k:=13)
  have h3:(((c.toNat:Nat):Int)=32)↔c=32:=s5 (k:=32)
  rw [h1,h2,h3]; simp [ef]
def zR (s:ByteArray):Nat→Nat→Nat
  | 0,a=>a
  | f+1,a=>if a < s.size∧ef (ad s a)=true then zR s f (a+1) else a
def bI (s:ByteArray) (a:Nat):Nat:=zR s (s.size - a) a
theorem rH {s:ByteArray} {a:Nat} (h:a < s.size) (hb:ef (ad s a)=true):bI s a=bI s (a+1):=by
  unfold bI
  rw [show s.size - a=(s.size - (a+1))+1 by omega]
  show (if a < s.size∧ef (ad s a)=true then _ else _)=_
  rw [if_pos ⟨h,hb⟩]
theorem eJ {s:ByteArray} {a:Nat} (h:¬(a < s.size∧ef (ad s a)=true)):bI s a=a:=by
  unfold bI
  cases hf:s.size - a with
  | zero=>rfl
  | succ f=>show (if a < s.size∧ef (ad s a)=true then _ else _)=_; rw [if_neg h]
theorem qq (s:ByteArray):∀ f a,a≤s.size→a≤zR s f a∧zR s f a≤s.size
  | 0,a,h=>⟨Nat.le_refl _,h⟩
  | f+1,a,h=>by
    show a≤(if a < s.size∧ef (ad s a)=true then zR s f (a+1) else a)∧(if a < s.size∧ef (ad s a)=true then zR s f (a+1) else a)≤s.size
    split
    · rename_i hc
      have:=qq s f (a+1) (by omega)
      omega
    · exact ⟨Nat.le_refl _,h⟩
theorem iI {s:ByteArray} {a:Nat} (h:a≤s.size):a≤bI s a∧bI s a≤s.size:=qq s _ a h
theorem mm {s:ByteArray}:∀ (d a:Nat),s.size - a=d→bI s (bI s a)=bI s a
  | 0,a,h=>by rw [eJ (a:=a) (by omega)]; exact eJ (by omega)
  | d+1,a,h=>by
    by_cases hb:a < s.size∧ef (ad s a)=true
    · rw [rH hb.1 hb.2]; exact mm d (a+1) (by omega)
    · rw [eJ hb,eJ hb]
def eD (c:UInt8):Bool:=decide (65≤c.toNat∧c.toNat≤90)
def jQ (t:ByteArray):Prop:=∀ j,j < t.size→eD (ad t j)=true
instance (t:ByteArray):Decidable (jQ t):=by unfold jQ; infer_instance
abbrev TagR:=(ByteArray×Int×Int)×Nat
def aQ (s:ByteArray) (a:Nat):ByteArray:=s.extract a (min (a+3) s.size)
theorem kP {s:ByteArray} {a:Nat} (h:a≤s.size):(aQ s a).size=min 3 (s.size - a):=by
  unfold aQ; rw [ByteArray.size_extract]; omega
theorem nX {s:ByteArray} {a j:Nat} (h:a≤s.size) (hj:j < (aQ s a).size):ad (aQ s a) j=ad s (a+j):=by
  rw [kP h] at hj
  exact nQ (by omega) (by omega)
def cX (s:ByteArray) (g:Sg) (a:Nat):TagR :=
  if ¬ jQ (aQ s a) then ((⟨#[]⟩,((a:Nat):Int),40),a)
  else if (aQ s a).size < 3∨a+(aQ s a).size=s.size then ((⟨#[]⟩,((s.size:Nat):Int),10),a+(aQ s a).size)
  else if ad s (a+(aQ s a).size)≠g.e∧ad s (a+(aQ s a).size)≠g.n then ((⟨#[]⟩,((a+(aQ s a).size:Nat):Int),40),a+(aQ s a).size)
  else ((aQ s a,0,0),a+(aQ s a).size)
abbrev rI:=Option (List UInt8×UInt8×Nat)
def eh (s:ByteArray) (g:Sg):Nat→Nat→List UInt8→rI
  | 0,_,_=>none
  | f+1,a,b =>
    if a < s.size then
      if ad s a=g.c∨ad s a=g.e∨ad s a=g.n then some (b,ad s a,a+1)
      else if ad s a=g.r then (if a+1=s.size then none else eh s g f (a+2) (b++[ad s (a+1)]))
      else eh s g f (a+1) (b++[ad s a])
    else none
theorem jR (s:ByteArray) (g:Sg):∀ (f a:Nat) (b:List UInt8),s.size - a < f→eh s g f a b=eh s g (f+1) a b
  | 0,_,_,h=>by omega
  | f+1,a,b,h=>by
    by_cases ha:a < s.size
    · rw [eh,eh,if_pos ha,if_pos ha]
      split
      · rfl
      · split
        · split
          · rfl
          · exact jR s g f _ _ (by omega)
        · exact jR s g f _ _ (by omega)
    · rw [eh,eh,if_neg ha,if_neg ha]
def cH (s:ByteArray) (g:Sg) (a:Nat) (b:List UInt8):rI:=eh s g (s.size+1) a b
theorem eW (s:ByteArray) (g:Sg) (a:Nat) (b:List UInt8):cH s g a b =
    if a < s.size then
      if ad s a=g.c∨ad s a=g.e∨ad s a=g.n then some (b,ad s a,a+1)
      else if ad s a=g.r then (if a+1=s.size then none else cH s g (a+2) (b++[ad s (a+1)]))
      else cH s g (a+1) (b++[ad s a])
    else none:=by
  by_cases ha:a < s.size
  · unfold cH
    rw [eh,if_pos ha,if_pos ha]
    have k:∀ x b',a < x→eh s g s.size x b'=eh s g (s.size+1) x b':=fun x b' hx=>jR s g _ _ _ (by omega)
    rw [k (a+2) _ (by omega),k (a+1) _ (by omega)]
  · unfold cH; rw [eh,if_neg ha,if_neg ha]
theorem kQ (s:ByteArray) (g:Sg):∀ (f a:Nat) (b:List UInt8) {t:List UInt8} {c:UInt8} {a':Nat},eh s g f a b=some (t,c,a')→a < a'∧a'≤s.size∧t.length≤b.length+(a' - a)∧(c=g.c∨c=g.e∨c=g.n)
  | 0,_,_,_,_,_,h=>by simp [eh] at h
  | f+1,a,b,t,c,a',h=>by
    rw [eh] at h
    split at h
    · rename_i ha
      split at h
      · rename_i hc
        simp only [Option.some.injEq,Prod.mk.injEq] at h
        obtain ⟨rfl,rfl,rfl⟩:=h
        exact ⟨by omega,by omega,by omega,hc⟩
      · split at h
        · split at h
          · cases h
          · obtain ⟨h1,h2,h3,h4⟩:=kQ s g f _ _ h
            simp only [List.length_append,List.length_singleton] at h3
            exact ⟨by omega,h2,by omega,h4⟩
        · obtain ⟨h1,h2,h3,h4⟩:=kQ s g f _ _ h
          simp only [List.length_append,List.length_singleton] at h3
          exact ⟨by omega,h2,by omega,h4⟩
    · cases h
theorem iJ {s:ByteArray} {g:Sg} {a a':Nat} {b t:List UInt8} {c:UInt8} (h:cH s g a b=some (t,c,a')):a < a'∧a'≤s.size∧t.length≤b.length+(a' - a)∧(c=g.c∨c=g.e∨c=g.n):=kQ s g _ _ _ h
def gi (out:List (List ByteArray)) (t:ByteArray):List (List ByteArray):=match out.getLast? with | some y=>out.dropLast++[y++[t]] | none=>out
theorem gj (ys:List (List ByteArray)) (y:List ByteArray) (t:ByteArray):gi (ys++[y]) t=ys++[y++[t]]:=by simp [gi]
abbrev ElR:=Option (List (List ByteArray)×Nat)
def jS (g:Sg) (c:UInt8) (out:List (List ByteArray)):List (List ByteArray):=if c=g.e then out++[[]] else out
def yv (s:ByteArray) (g:Sg):Nat→UInt8→Nat→List (List ByteArray)→ElR
  | 0,_,_,_=>none
  | f+1,c,a,out =>
    if c=g.n then some (out,a)
    else match cH s g a [] with
      | none=>none
      | some (t,c',a')=>yv s g f c' a' (gi (jS g c out) ⟨t.toArray⟩)
theorem tH (s:ByteArray) (g:Sg):∀ (f a:Nat) (c:UInt8) (out:List (List ByteArray)),a≤s.size→s.size - a < f→yv s g f c a out=yv s g (f+1) c a out
  | 0,_,_,_,_,h=>by omega
  | f+1,a,c,out,ha,h=>by
    rw [yv,yv]
    split
    · rfl
    · cases hp:cH s g a [] with
      | none=>rfl
      | some x =>
        obtain ⟨t,c',a'⟩:=x
        obtain ⟨h1,h2,_⟩:=iJ hp
        exact tH s g f a' c' _ h2 (by omega)
def ja (s:ByteArray) (g:Sg) (c:UInt8) (a:Nat) (out:List (List ByteArray)):ElR:=yv s g (s.size+1) c a out
theorem qs (s:ByteArray) (g:Sg) (c:UInt8) (a:Nat) (out:List (List ByteArray)):ja s g c a out =
    if c=g.n then some (out,a)
    else match cH s g a [] with
      | none=>none
      | some (t,c',a')=>ja s g c' a' (gi (jS g c out) ⟨t.toArray⟩):=by
  unfold ja
  rw [yv]
  split
  · rfl
  · cases hp:cH s g a [] with
    | none=>rfl
    | some x =>
      obtain ⟨t,c',a'⟩:=x
      obtain ⟨h1,h2,_⟩:=iJ hp
      exact tH s g s.size a' c' _ h2 (by omega)
theorem wK (s:ByteArray) (g:Sg):∀ (f:Nat) (c:UInt8) (a:Nat) (out:List (List ByteArray)) {l:List (List ByteArray)} {a':Nat},a≤s.size→yv s g f c a out=some (l,a')→a≤a'∧a'≤s.size
  | 0,_,_,_,_,_,_,h=>by simp [yv] at h
  | f+1,c,a,out,l,a',ha,h=>by
    rw [yv] at h
    split at h
    · simp only [Option.some.injEq,Prod.mk.injEq] at h
      obtain ⟨_,rfl⟩:=h
      exact ⟨Nat.le_refl _,ha⟩
    · cases hp:cH s g a [] with
      | none=>rw [hp] at h; cases h
      | some x =>
        obtain ⟨t,c',b⟩:=x
        rw [hp] at h
        obtain ⟨h1,h2,_⟩:=iJ hp
        have:=wK s g f c' b _ h2 h
        omega
theorem rJ {s:ByteArray} {g:Sg} {c:UInt8} {a a':Nat} {out l:List (List ByteArray)} (ha:a≤s.size) (h:ja s g c a out=some (l,a')):a≤a'∧a'≤s.size:=wK s g _ _ _ _ ha h
structure Seg where
  tag:ByteArray
  els:List (List ByteArray)
deriving DecidableEq
abbrev ParR:=List Seg×Int×Int
def rK (s:ByteArray) (g:Sg):Nat→Nat→List Seg→ParR
  | 0,_,out=>(out,0,0)
  | f+1,a0,out =>
    if bI s a0 < s.size then
      if out.length=10000 then ([],((bI s a0:Nat):Int),2)
      else if (cX s g (bI s a0)).1.2.2≠0 then ([],(cX s g (bI s a0)).1.2.1,(cX s g (bI s a0)).1.2.2)
      else match ja s g (ad s (cX s g (bI s a0)).2) ((cX s g (bI s a0)).2+1) [] with
        | none=>([],((s.size:Nat):Int),10)
        | some (l,a')=>rK s g f a' (out++[⟨(cX s g (bI s a0)).1.1,l⟩])
    else (out,0,0)
theorem rL {s:ByteArray} {g:Sg} {a:Nat} (h:(cX s g a).1.2.2=0):cX s g a=((aQ s a,0,0),a+3)∧(aQ s a).size=3∧a+3≠s.size∧(ad s (a+3)=g.e∨ad s (a+3)=g.n):=by
  have hs:(aQ s a).size≤3:=by unfold aQ; rw [ByteArray.size_extract]; omega
  unfold cX at h ⊢
  split at h
  · cases h
  · split at h
    · cases h
    · split at h
      · cases h
      · rename_i h1 h2 h3
        rw [if_neg h1,if_neg h2,if_neg h3]
        have h4:(aQ s a).size=3:=by omega
        rw [h4] at h2 h3 ⊢
        refine ⟨rfl,rfl,fun e=>h2 (.inr e),?_⟩
        by_cases he:ad s (a+3)=g.e
        · exact .inl he
        · exact .inr (Decidable.byContradiction fun hn=>h3 ⟨he,hn⟩)
theorem nY {s:ByteArray} {a:Nat} (h:(aQ s a).size=3) (h2:a+3≠s.size):a+3 < s.size:=by
  unfold aQ at h; rw [ByteArray.size_extract] at h; omega
theorem qt (s:ByteArray) (g:Sg):∀ (f a:Nat) (out:List Seg),a≤s.size→s.size - a < f→rK s g f a out=rK s g (f+1) a out
  | 0,_,_,_,h=>by omega
  | f+1,a,out,ha,h=>by
    rw [rK,rK]
    split
    · rename_i hlt
      split
      · rfl
      · split
        · rfl
        · rename_i he
          obtain ⟨e1,e2,e3,_⟩:=rL (s:=s) (g:=g) (a:=bI s a) (by simpa using he)
          have e4:=nY e2 e3
          have hk:=iI ha
          rw [e1]
          dsimp only
          cases hp:ja s g (ad s (bI s a+3)) (bI s a+3+1) [] with
          | none=>rfl
          | some x =>
            obtain ⟨l,a'⟩:=x
            have h2:=rJ (by omega) hp
            exact qt s g f a' _ h2.2 (by omega)
    · rfl
def lG (s:ByteArray) (g:Sg) (a:Nat) (out:List Seg):ParR:=rK s g (s.size+1) a out
theorem jT (s:ByteArray) (g:Sg) (a:Nat) (out:List Seg) (ha:a≤s.size):lG s g a out =
    if bI s a < s.size then
      if out.length=10000 then ([],((bI s a:Nat):Int),2)
      else if (cX s g (bI s a)).1.2.2≠0 then ([],(cX s g (bI s a)).1.2.1,(cX s g (bI s a)).1.2.2)
      else match ja s g (ad s (cX s g (bI s a)).2) ((cX s g (bI s a)).2+1) [] with
        | none=>([],((s.size:Nat):Int),10)
        | some (l,a')=>lG s g a' (out++[⟨(cX s g (bI s a)).1.1,l⟩])
    else (out,0,0):=by
  unfold lG
  rw [rK]
  split
  · split
    · rfl
    · split
      · rfl
      · rename_i he
        obtain ⟨e1,e2,e3,_⟩:=rL (s:=s) (g:=g) (a:=bI s a) (by simpa using he)
        have e4:=nY e2 e3
        have hk:=iI ha
        rw [e1]
        dsimp only
        cases hp:ja s g (ad s (bI s a+3)) (bI s a+3+1) [] with
        | none=>rfl
        | some x =>
          obtain ⟨l,a'⟩:=x
          have h2:=rJ (by omega) hp
          exact qt s g s.size a' _ h2.2 (by omega)
  · rfl
def iK (c:UInt8):Prop:=c.toNat≤32∨(48≤c.toNat∧c.toNat≤57)∨(65≤c.toNat∧c.toNat≤90)∨(97≤c.toNat∧c.toNat≤122)
instance (c:UInt8):Decidable (iK c):=by unfold iK; infer_instance
def eX (g:Sg):Prop:=(¬iK g.c∧¬iK g.e∧¬iK g.r∧¬iK g.n)∧g.e≠g.c∧(g.r≠g.c∧g.r≠g.e)∧g.n≠g.c∧g.n≠g.e∧g.n≠g.r
instance (g:Sg):Decidable (eX g):=by unfold eX; infer_instance
def bO:Sg:=⟨58,43,63,39⟩
def jk (s:ByteArray):Sg:=⟨ad s 3,ad s 4,ad s 6,ad s 8⟩
def pT (s:ByteArray):Prop:=3≤s.size∧s.extract 0 3=⟨#[85,78,65]⟩
instance (s:ByteArray):Decidable (pT s):=by unfold pT; infer_instance
def aK (s:ByteArray):ParR :=
  if pT s then (if s.size < 9 then ([],((s.size:Nat):Int),10) else if eX (jk s) then lG s (jk s) 9 [] else ([],3,11))
  else lG s bO 0 []
end Go.PK

namespace Go.PK
open Go Go.RowKit
section
variable {P:Program} {n:Nat} {l:List (Nat×Value)} {own:List (Nat×Obj)} {ro:List av} {ty:TypeId} {x y:Operand} {t t':TypeId}
theorem gA {a:Addr} (hx:ev l x=some (.pointer (some a))):cx P n l own ro (.nilCheck x) ty (.pointer (some a)):=by
  intro A w o ha _ ho _
  simp [execOp,ho,ha.eval hx]
theorem Mem.fresh {w w0:World} {b:Nat} {o:Obj} {rest own0:List (Nat×Obj)} {ro:List av} (h:Mem w ((b,o)::rest) ro) (hs:(w0,a7 own0)∈ro) (he:own0.map (·.1)=rest.map (·.1)):w0.heap.size≤b :=
  h.apart (b,o) (.head _) _ hs (fun q hq e=>by
    have hnd:=h.own_nd
    simp only [List.map_cons,List.nodup_cons] at hnd
    have e:q.1=b:=e
    exact hnd.1 (by rw [← he,← e]; exact List.mem_map_of_mem hq))
variable {lops:List Oper} {Q:Exit→Act→World→Prop} {K:Act→World→Prop} {rest:List (Option Bool×Nat)} {i d:Nat} {pos:String} {af:Array Edge}
theorem gB {τ:Type} {f:FuncId} {fn:Func} {xs:Array Operand} {tys:Array TypeId} {vs:List Value} (R:τ→Value→World→World→Prop) (O:τ→List (Nat×Obj)) (ho:lops[i]?=some ⟨some d,.call ⟨.value (.func f),xs,tys⟩,ty,pos,af,none⟩) (hd:decide (d < n)=true)
    (hf:P.funcs[f]?=some fn) (hbody:(!(fn.name == "runtime.NumGoroutine") && fn.body.isSome)=true) (hx:lw l xs.toList=some vs)
    (hc:∀ w,Mem w own ro→Calls P f vs.toArray w fun e w'=>∃ v,e=.returned v∧∃ x,R x v w w'∧Mem w' (O x) ro)
    (h:∀ v x w1 w2,Mem w1 own ro→R x v w1 w2→Mem w2 (O x) ro→WX P lops.toArray Q K rest n ((d,v)::l) (O x) ((w2,a7 (O x))::ro)):WX P lops.toArray Q K ((none,i)::rest) n l own ro:=by
  intro a w ha hw
  have hd':d < n:=of_decide_eq_true hd
  have hw1:=bU (lops:=lops) (n:=n) (l:=l) (o:=⟨some d,.call ⟨.value (.func f),xs,tys⟩,ty,pos,af,none⟩) rfl a ha
  simp only [hJ,List.getElem?_toArray,ho]
  intro w' hl
  rw [if_pos hw1]
  unfold Oper.wp
  rw [dO (c:=.func f) (fst:=#[]) (cap:=#[]) rfl ha rfl hf hbody hx]
  have hc':=hc w' (hw.later hl)
  have hc2:Calls P f ((#[]:Array Value)++vs.toArray++#[]) w' fun e w2=>∃ v,e=.returned v∧∃ x,R x v w' w2∧Mem w2 (O x) ro:=by simpa using hc'
  refine Calls.mono hc2 fun e w2 he=>?_
  obtain ⟨v,rfl,x,hr,hm⟩:=he
  exact h v x w' w2 (hw.later hl) hr hm _ w2 (ha.put v hd') hm.snap
theorem aI {τ:Type} {f:FuncId} {fn:Func} {xs:Array Operand} {tys:Array TypeId} {vs:List Value} {v:Value} (R:τ→Prop) (O:τ→List (Nat×Obj)) (ho:lops[i]?=some ⟨some d,.call ⟨.value (.func f),xs,tys⟩,ty,pos,af,none⟩) (hd:decide (d < n)=true)
    (hf:P.funcs[f]?=some fn) (hbody:(!(fn.name == "runtime.NumGoroutine") && fn.body.isSome)=true) (hx:lw l xs.toList=some vs)
    (hc:∀ w,Mem w own ro→Calls P f vs.toArray w fun e w'=>e=.returned v∧∃ x,R x∧Mem w' (O x) ro)
    (h:∀ x,R x→WX P lops.toArray Q K rest n ((d,v)::l) (O x) ro):WX P lops.toArray Q K ((none,i)::rest) n l own ro :=
  rz (fst:=#[]) (cap:=#[]) R O ho hd rfl hf hbody hx (fun w hw=>by simpa using hc w hw) h
end
end Go.PK

namespace Go.PK
open Go Go.RowKit
section
variable {P:Program} {n:Nat} {l:List (Nat×Value)} {own:List (Nat×Obj)} {ro:List av} {lops:List Oper} {Q:Exit→Act→World→Prop} {K:Act→World→Prop}
  {rest:List (Option Bool×Nat)} {k:Option Bool} {i d j dj:Nat} {want:Bool} {op:Op} {ty:TypeId} {pos:String} {af:Array Edge}
theorem cz (ho:lops[i]?=some ⟨some d,op,ty,pos,af,some (j,want)⟩) (hj:(lops[j]?).bind (·.dst)=some dj) (hb:l.lookup dj=some (.bool want)) (hk:k.getD true=true) (hd:decide (d < n)=true) {v:Value} (hv:cx P n l own ro op ty v)
    (h:WX P lops.toArray Q K rest n ((d,v)::l) own ro):WX P lops.toArray Q K ((k,i)::rest) n l own ro:=wy ho (ig rfl hj hb) rfl hk hd hv h
theorem db (ho:lops[i]?=some ⟨some d,op,ty,pos,af,some (j,want)⟩) (hj:(lops[j]?).bind (·.dst)=some dj) (hb:l.lookup dj=some (.bool want)) (hk:k.getD true=true) (hd:decide (d < n)=true) {b:Bool} (hv:cx P n l own ro op ty (.bool b))
    (h:∀ c,c=b→WX P lops.toArray Q K rest n ((d,.bool c)::l) own ro):WX P lops.toArray Q K ((k,i)::rest) n l own ro:=wy ho (ig rfl hj hb) rfl hk hd hv (h b rfl)
theorem dc {f:FuncId} {fn:Func} {xs:Array Operand} {tys:Array TypeId} {vs:List Value} (ho:lops[i]?=some ⟨some d,.call ⟨.value (.func f),xs,tys⟩,ty,pos,af,some (j,want)⟩) (hj:(lops[j]?).bind (·.dst)=some dj) (hb:l.lookup dj=some (.bool want)) (hk:k.getD true=true) (hd:decide (d < n)=true)
    (hf:P.funcs[f]?=some fn) (hbody:(!(fn.name == "runtime.NumGoroutine") && fn.body.isSome)=true) (hx:lw l xs.toList=some vs) {v:Value}
    (hc:∀ w,Mem w own ro→Calls P f vs.toArray w fun e w'=>e=.returned v∧Later w w')
    (h:WX P lops.toArray Q K rest n ((d,v)::l) own ro):WX P lops.toArray Q K ((k,i)::rest) n l own ro :=
  gd (fst:=#[]) (cap:=#[]) ho (ig rfl hj hb) rfl rfl hk hd rfl hf hbody hx (by simpa using hc) h
theorem fL {f:FuncId} {fn:Func} {xs:Array Operand} {tys:Array TypeId} {vs:List Value} (ho:lops[i]?=some ⟨some d,.call ⟨.value (.func f),xs,tys⟩,ty,pos,af,some (j,want)⟩) (hj:(lops[j]?).bind (·.dst)=some dj) (hb:l.lookup dj=some (.bool want)) (hk:k.getD true=true) (hd:decide (d < n)=true)
    (hf:P.funcs[f]?=some fn) (hbody:(!(fn.name == "runtime.NumGoroutine") && fn.body.isSome)=true) (hx:lw l xs.toList=some vs) {b:Bool}
    (hc:∀ w,Mem w own ro→Calls P f vs.toArray w fun e w'=>e=.returned (.bool b)∧Later w w')
    (h:∀ c,c=b→WX P lops.toArray Q K rest n ((d,.bool c)::l) own ro):WX P lops.toArray Q K ((k,i)::rest) n l own ro:=dc ho hj hb hk hd hf hbody hx hc (h b rfl)
theorem lH {τ:Type} {f:FuncId} {fn:Func} {xs:Array Operand} {tys:Array TypeId} {vs:List Value} {v:Value} (R:τ→Prop) (O:τ→List (Nat×Obj)) (ho:lops[i]?=some ⟨some d,.call ⟨.value (.func f),xs,tys⟩,ty,pos,af,some (j,want)⟩) (hj:(lops[j]?).bind (·.dst)=some dj) (hb:l.lookup dj=some (.bool want)) (hd:decide (d < n)=true)
    (hf:P.funcs[f]?=some fn) (hbody:(!(fn.name == "runtime.NumGoroutine") && fn.body.isSome)=true) (hx:lw l xs.toList=some vs)
    (hc:∀ w,Mem w own ro→Calls P f vs.toArray w fun e w'=>e=.returned v∧∃ x,R x∧Mem w' (O x) ro)
    (h:∀ x,R x→WX P lops.toArray Q K rest n ((d,v)::l) (O x) ro):WX P lops.toArray Q K ((none,i)::rest) n l own ro:=by
  intro a w ha hw
  have hd':d < n:=of_decide_eq_true hd
  have hw1:=ig (lops:=lops) (n:=n) (l:=l) (o:=⟨some d,.call ⟨.value (.func f),xs,tys⟩,ty,pos,af,some (j,want)⟩) rfl hj hb a ha
  simp only [hJ,List.getElem?_toArray,ho]
  intro w' hl
  rw [if_pos hw1]
  unfold Oper.wp
  have hc':∀ w,Mem w own ro→Calls P f ((#[]:Array Value)++vs.toArray++#[]) w fun e w'=>e=.returned v∧∃ x,R x∧Mem w' (O x) ro:=by simpa using hc
  rw [dO (fst:=#[]) (cap:=#[]) rfl ha rfl hf hbody hx]
  refine Calls.mono (hc' w' (hw.later hl)) fun e w2 he=>?_
  obtain ⟨rfl,x,hr,hm⟩:=he
  exact h x hr _ w2 (ha.put v hd') hm
end
end Go.PK

namespace Go.PK
open Go Go.RowKit
theorem Qz:(∀ (p:Prop) [Decidable p],(decide p=true)=p)∧(∀ (p:Prop) [Decidable p],(decide p=false)=¬p)∧(∀ a b:Bool,((a && b)=true)=(a=true∧b=true))∧(∀ a b:Bool,((a || b)=true)=(a=true∨b=true))∧(∀ a b:Bool,((a && b)=false)=(a=false∨b=false))∧(∀ a b:Bool,((a || b)=false)=(a=false∧b=false))∧(∀ b:Bool,((!b)=true)=(b=false))∧(∀ b:Bool,((!b)=false)=(b=true))∧(∀ (p:Prop) [Decidable p],(¬¬p)=p) :=
  ⟨fun p _=>decide_eq_true_eq,fun p _=>propext decide_eq_false_iff_not,Bool.and_eq_true,Bool.or_eq_true,fun a b=>propext Bool.and_eq_false_iff,fun a b=>propext Bool.or_eq_false_iff,Bool.not_eq_true',Bool.not_eq_false',fun p _=>propext Decidable.not_not⟩
theorem Qy:(∀ (a:Bool×Bool) (xs bs:List (Bool×Bool)),(a::xs)++bs=a::(xs++bs))∧(∀ xs:List (Bool×Bool),[]++xs=xs)∧(∀ v,kE [] v=v)∧(∀ gs v,kE ((true,true)::gs) v=kE gs v)∧(∀ gs v,kE ((false,false)::gs) v=kE gs v):=⟨fun _ _ _=>rfl,fun _=>rfl,gvl_nil,gvl_t,gvl_f⟩
abbrev Vi (n:Int):Value:=.int .i64 n
abbrev Pt (p:Nat):Value:=.pointer (some ⟨p,0,none⟩)
abbrev Bk (p:Nat) (l:List Value) (t:TypeId):Nat×Obj:=(p,.cells l.toArray t)
theorem Zo {p:Prop} (h:p:=by first | omega | (dsimp only; omega)):p:=h
theorem Zh {p:Prop} (h:p:=by repeat (first | exact List.Mem.head _ | apply List.Mem.tail)):p:=h
theorem Zu {p:Prop} (h:p:=by repeat (first | exact je.nil | refine je.cons rfl ?_)):p:=h
theorem Zk {p:Prop} (h:p:=by kernel_rfl):p:=h
theorem Zx {p:Prop} (h:p:=by simp only [maxLen]; omega):p:=h
section
variable {P:Program} {n:Nat} {l:List (Nat×Value)} {own:List (Nat×Obj)} {ro:List av} {lops:List Oper} {Q:Exit→Act→World→Prop} {K:Act→World→Prop}
  {rest:List (Option Bool×Nat)} {k:Option Bool} {i d j dj:Nat} {op:Op} {ty t:TypeId} {pos:String} {af:Array Edge} {x:Operand} {v:Value} {b c want:Bool}
theorem Xm (h:WX P lops.toArray Q K rest n ((d,v)::l) own ro) (ho:lops[i]?=some ⟨some d,.move x,ty,pos,af,none⟩:=by exact rfl) (hk:k.getD true=true:=by exact rfl) (hd:decide (d < n)=true:=by exact rfl) (hx:ev l x=some v:=by exact rfl):WX P lops.toArray Q K ((k,i)::rest) n l own ro:=eU ho hk hd (eC hx) h
theorem Xa (h:WX P lops.toArray Q K rest n ((d,v)::l) own ro) (ho:lops[i]?=some ⟨some d,.assign x,ty,pos,af,none⟩:=by exact rfl) (hk:k.getD true=true:=by exact rfl) (hd:decide (d < n)=true:=by exact rfl) (hx:ev l x=some v:=by exact rfl):WX P lops.toArray Q K ((k,i)::rest) n l own ro:=eU ho hk hd (gx hx) h
theorem Xv (ho:lops[i]?=some ⟨some d,op,ty,pos,af,none⟩) (hv:cx P n l own ro op ty v) (h:WX P lops.toArray Q K rest n ((d,v)::l) own ro) (hk:k.getD true=true:=by exact rfl) (hd:decide (d < n)=true:=by exact rfl):WX P lops.toArray Q K ((k,i)::rest) n l own ro:=eU ho hk hd hv h
theorem Xb (ho:lops[i]?=some ⟨some d,op,ty,pos,af,none⟩) (hv:cx P n l own ro op ty (.bool b)) (h:∀ c,c=b→WX P lops.toArray Q K rest n ((d,.bool c)::l) own ro) (hk:k.getD true=true:=by exact rfl) (hd:decide (d < n)=true:=by exact rfl):WX P lops.toArray Q K ((k,i)::rest) n l own ro:=eB ho hk hd hv h
theorem Xi (ho:lops[i]?=some ⟨some d,op,ty,pos,af,some (j,want)⟩) (hj:(lops[j]?).bind (·.dst)=some dj) (hb:l.lookup dj=some (.bool b)) (hv:b=want→cx P n l own ro op ty v) (h:WX P lops.toArray Q K rest n ((d,kE ([]++[(b,want)]) v)::l) own ro) (hk:k.getD true=true:=by exact rfl) (hd:decide (d < n)=true:=by exact rfl):WX P lops.toArray Q K ((k,i)::rest) n l own ro:=fV [] ho hj hb hk hd (fun hg=>hv hg.1) h
theorem Xg (h:WX P lops.toArray Q K rest n ((d,kE ([]++[(b,want)]) v)::l) own ro) (ho:lops[i]?=some ⟨some d,.move x,ty,pos,af,some (j,want)⟩:=by exact rfl) (hj:(lops[j]?).bind (·.dst)=some dj:=by exact rfl) (hb:l.lookup dj=some (.bool b):=by exact rfl) (hk:k.getD true=true:=by exact rfl) (hd:decide (d < n)=true:=by exact rfl) (hx:b=want→ev l x=some v:=by intro hg0; (try subst hg0); (try simp only [Qy]); exact rfl):WX P lops.toArray Q K ((k,i)::rest) n l own ro:=fV [] ho hj hb hk hd (fun hg=>eC (hx hg.1)) h
theorem Xj (ho:lops[i]?=some ⟨some d,op,ty,pos,af,some (j,want)⟩) (hj:(lops[j]?).bind (·.dst)=some dj) (hb:l.lookup dj=some (.bool b)) (hv:b=want→cx P n l own ro op ty (.bool c)) (h:∀ c',c'=c→WX P lops.toArray Q K rest n ((d,kE ([]++[(b,want)]) (.bool c'))::l) own ro) (hk:k.getD true=true:=by exact rfl) (hd:decide (d < n)=true:=by exact rfl):WX P lops.toArray Q K ((k,i)::rest) n l own ro:=fp [] ho hj hb hk hd (fun hg=>hv hg.1) h
theorem Vl {td:TypeDesc} {p o:Nat} (ht:P.underlying t=some td) (hx:ev l x=some (.pointer (some ⟨p,o,none⟩))) (hd:jD td=false:=by exact rfl) (hc:At own ro p o v:=by first | exact aa (.head _) rfl | exact aa (.tail _ (.head _)) rfl | exact aa (.tail _ (.tail _ (.head _))) rfl | (apply aa; ((repeat (first | exact List.Mem.head _ | apply List.Mem.tail | apply List.mem_append_right))); rfl) | (refine an (by first | exact .head _ | exact .tail _ (.head _) | exact .tail _ (.tail _ (.head _)) | simp) ?_ (by assumption); trivial)):cx P n l own ro (.load t x) ty v:=aW ht hd hx hc
theorem Ze (h:S K n l own ro):WX P lops.toArray Q K [] n l own ro:=x_end h
theorem Zt {y:Code} (h:W P y Q n l own ro):S (Exit.then (y.wp P Q) Q .normal) n l own ro:=h
theorem Zs {x y:Code} (h:W P x (Exit.then (y.wp P Q) Q) n l own ro):W P (.seq x y) Q n l own ro:=w_seq h
theorem Zr {id:Nat} (h:WX P lops.toArray Q (fun a w=>Q .normal a w) (dX 0 lops.length) n l own ro):W P (.region id lops.toArray false) Q n l own ro:=rg_text h
theorem Xn (h:WX P lops.toArray Q K rest n ((d,v)::l) own ro) (ho:lops[i]?=some ⟨some d,.nilCheck x,ty,pos,af,none⟩:=by exact rfl) (hk:k.getD true=true:=by exact rfl) (hd:decide (d < n)=true:=by exact rfl) (hv:cx P n l own ro (.nilCheck x) ty v:=by exact gA rfl):WX P lops.toArray Q K ((k,i)::rest) n l own ro:=eU ho hk hd hv h
theorem Xe {e:Nat} (h:WX P lops.toArray Q K rest n ((d,v)::l) own ro) (ho:lops[i]?=some ⟨some d,.extract x e,ty,pos,af,none⟩:=by exact rfl) (hk:k.getD true=true:=by exact rfl) (hd:decide (d < n)=true:=by exact rfl) (hv:cx P n l own ro (.extract x e) ty v:=by exact eI rfl rfl):WX P lops.toArray Q K ((k,i)::rest) n l own ro:=eU ho hk hd hv h
theorem Xl {td:TypeDesc} {p o:Nat} (ho:lops[i]?=some ⟨some d,.load t x,ty,pos,af,none⟩) (ht:P.underlying t=some td) (hx:ev l x=some (.pointer (some ⟨p,o,none⟩))) (hc:At own ro p o v) (h:WX P lops.toArray Q K rest n ((d,v)::l) own ro) (hd':jD td=false:=by exact rfl) (hk:k.getD true=true:=by exact rfl) (hd:decide (d < n)=true:=by exact rfl):WX P lops.toArray Q K ((k,i)::rest) n l own ro:=eU ho hk hd (aW ht hd' hx hc) h
end
end Go.PK

namespace Go.PK
open Go Go.RowKit
section
variable {P:Program} {n:Nat} {l:List (Nat×Value)} {own:List (Nat×Obj)} {ro:List av} {ty:TypeId} {x y:Operand} {t t':TypeId} {b:Nat}
theorem qu {w:World} {cs:Array Value} {e:TypeId} {fz:Nat×Nat} (hw:Mem w own ro) (hb:(b,Obj.cells cs e fz)∈own):w.shape? b=some (e,cs.size):=by
  have hg:w.heap[b]?=some (.cells cs e fz):=hw.own_at _ hb
  simp [World.shape?,hg]
theorem v_toUns {T e:TypeId} {m:Nat} {cs:Array Value} {fz:Nat×Nat} {off:Nat} (hs:P.underlying t=some (.pointer T)) (hd:P.underlying t'=some .unsafePointer) (ht:(P.info? T).map (·.size)=some (m+1)) (hx:ev l x=some (.pointer (some ⟨b,off,none⟩))) (hb:(b,Obj.cells cs e fz)∈own) (ho:off < cs.size) :
    cx P n l own ro (.convert t t' x) ty (.pointer (some ⟨b,off,none⟩)):=by
  intro A w o ha hw hop _
  obtain ⟨j,hj,hjs⟩:=Option.map_eq_some_iff.1 ht
  have:=Lib.run_to_unsafe (P:=P) (w:=w) (src:=t) (dst:=t') ⟨b,off,none⟩ hs hd hj (by rw [hjs]; omega) (qu hw hb) ho
  simp [execOp,hop,ha.eval hx,this]
theorem yw {T e:TypeId} {cs:Array Value} {fz:Nat×Nat} {off:Nat} (hs:P.underlying t=some .unsafePointer) (hd:P.underlying t'=some (.pointer T)) (ht:∃ j,P.info? T=some j) (hx:ev l x=some (.pointer (some ⟨b,off,none⟩))) (hb:(b,Obj.cells cs e fz)∈own)
    (hl:liesAt P P.depth e (cs.size / P.cellsOf e) off T 1=true):cx P n l own ro (.convert t t' x) ty (.pointer (some ⟨b,off,none⟩)):=by
  intro A w o ha hw hop _
  obtain ⟨j,hj⟩:=ht
  have:=Lib.run_from_unsafe (P:=P) (w:=w) (src:=t) (dst:=t') ⟨b,off,none⟩ hs hd hj (qu hw hb) hl
  simp [execOp,hop,ha.eval hx,this]
theorem v_noEsc {f:FuncId} {fn:Func} {v:Value} {tys:Array TypeId} (hf:P.funcs[f]?=some fn) (hname:(fn.name == "runtime.NumGoroutine")=false) (hb:fn.body.isNone=true) (hn:Extern.findNext fn=none) (he:Extern.find fn=some Extern.AbiNoEscape.same) (hx:ev l x=some v) :
    cx P n l own ro (.call ⟨.value (.func f),#[x],tys⟩) ty v:=by
  intro A w o ha _ hop _
  have h1:=run_callFunc_extern hf hname hb hn he #[v] w
  rw [Lib.run_noEscape] at h1
  have hf2:A.eval (.func f)=.func (.func f) #[] #[]:=rfl
  simp [execOp,hop,resolve,invoke,ha.eval hx,hf2,Deferred.ofValue,h1]
theorem gC {T:TypeId} {o:Option Addr} (ht:P.underlying t=some (.pointer T)) (hx:ev l x=some (.pointer o)) (hy:ev l y=some (.pointer none)):cx P n l own ro (.binOp .eql t x y t') ty (.bool o.isNone):=by
  intro A w q ha _ hq _
  have h:∀ d:Nat,(Op.equalIn (d+1) t (.pointer o) (.pointer none)).run P w=.ok o.isNone w:=fun d=>by
    cases o <;> simp [Op.equalIn,run_underlying ht]
  have h2:(Op.equal t (.pointer o) (.pointer none)).run P w=.ok o.isNone w:=h 9999
  simp [execOp,hq,ha.eval hx,ha.eval hy,eqGuard,binOp,h2]
theorem v_pne {T:TypeId} {a:Addr} {j:TypeInfo} (ht:P.underlying t=some (.pointer T)) (hj:P.info? T=some j) (hx:ev l x=some (.pointer (some a))) (hy:ev l y=some (.pointer (some a))):cx P n l own ro (.binOp .neq t x y t') ty (.bool false):=by
  intro A w q ha _ hq _
  have h2:=Lib.run_neq_ptr_same (P:=P) (w:=w) a ht hj
  simp [execOp,hq,ha.eval hx,ha.eval hy,eqGuard,h2]
end
def em (T e:TypeId) (b:Nat) (pp:Value) (r:ak) (k:Nat):List (Nat×Obj):=(b,.cells #[pp,au r k] T (0,0))::aA e r
def yx (b:Nat) (pp:Value):Prop:=pp=.pointer none∨pp=.pointer (some ⟨b,0,none⟩)
theorem bld2_is {T e:TypeId} {B b k:Nat} {pp:Value} {r:ak} {bs:List UInt8} {w:World} {l2:List (Nat×Obj)} {ro:List av} (hm:Mem w (em T e b pp r k++l2) ro) (hp:yx b pp) (hr:ag 1 r k (ea bs)) (hk:k=bs.length) (hB:∀ q∈em T e b pp r k,B≤q.1):Lib.IsBuilderF T e B b (ea bs) w:=by
  subst hk
  have hb:w.heap[b]?=some (.cells #[pp,au r bs.length] T (0,0)):=hm.own_at (b,_) (by simp [em])
  have key:w.ownsRowF B e 1 (au r bs.length) (ea bs).length (ea bs)∧(au r bs.length).ownBlock≠some b:=by
    rw [rD]
    cases r with
    | none =>
      have h0:bs=[]:=List.eq_nil_of_length_eq_zero hr.2
      subst h0
      exact ⟨World.ownsRowF_nil ..,by simp [au,jN,Value.ownBlock]⟩
    | some x =>
      obtain ⟨g,cs,c⟩:=x
      obtain ⟨h1,h2,h3,h4,h5⟩:=hr
      dsimp only at h2 h3 h4
      have hg:w.heap[g]?=some (.cells cs.toArray e (0,0)):=hm.own_at (g,_) (by simp [em,aA])
      refine ⟨⟨h1,.inr ⟨g,c,cs.toArray,(0,0),rfl,hB (g,.cells cs.toArray e (0,0)) (List.mem_cons_of_mem _ (.head _)),hg,Nat.zero_le _,h2,h3,by simpa using h4,by simpa using h5⟩⟩,?_⟩
      intro he
      have he:g=b:=Option.some.inj he
      have hnd:=hm.own_nd
      simp only [em,aA,List.cons_append,List.nil_append,List.map_cons,List.nodup_cons] at hnd
      exact hnd.1 (by simp [he])
  rcases hp with hp | hp
  · exact .inl ⟨hB (b,.cells #[pp,au r bs.length] T (0,0)) (.head _),au r bs.length,by rw [← hp]; exact hb,key⟩
  · exact .inr ⟨hB (b,.cells #[pp,au r bs.length] T (0,0)) (.head _),au r bs.length,by rw [← hp]; exact hb,key⟩
theorem Mem.after {w w':World} {B:Nat} {l1 l2:List (Nat×Obj)} {ro:List av} (hm:Mem w (l1++l2) ro) (hB:∀ s∈ro,s.1.heap.size≤B) (h2:∀ q∈l2,q.1 < B) (hl:Below B w w'):Mem w' l2 ro:=by
  have hl2:∀ q∈l2,q∈l1++l2:=fun q hq=>List.mem_append_right _ hq
  refine ⟨fun q hq=>(hl.block q.1 (h2 q hq)).trans (hm.own_at q (hl2 q hq)),?_,fun s hs=>?_,fun s hs k hk hlt=>(hl.block k (Nat.lt_of_lt_of_le hlt (hB s hs))).trans (hm.ro_at s hs k hk hlt),fun q hq s hs hd=>hm.apart q (hl2 q hq) s hs hd⟩
  · have:=hm.own_nd
    rw [List.map_append,List.nodup_append] at this
    exact this.2.1
  · obtain ⟨a,c,d,f⟩:=hm.ro_st s hs
    exact ⟨hl.os.trans a,hl.tape.trans c,hl.output.trans d,Nat.le_trans f hl.size⟩
theorem Mem.newB {w w0:World} {l1 l2 own0:List (Nat×Obj)} {ro:List av} (h:Mem w (l1++l2) ro) (hs:(w0,a7 own0)∈ro) (he:∀ k,k∈own0.map (·.1)→k∈l2.map (·.1)):∀ q∈l1,w0.heap.size≤q.1:=fun q hq =>
  h.apart q (List.mem_append_left _ hq) _ hs (fun q2 hq2 e=>by
    have hnd:=h.own_nd
    rw [List.map_append,List.nodup_append] at hnd
    exact hnd.2.2 q.1 (List.mem_map_of_mem hq) q.1 (he _ (by rw [← e]; exact List.mem_map_of_mem hq2)) rfl)
end Go.PK
