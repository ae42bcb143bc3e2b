/- Of the proofs of YtifekogdhjabaaaGreatDoor: PkUnc PkUnc2 PkUnc3 PkUnc4 PkG24 PkMapC PkG25 PkG26 PkG27 PkMapN PkG28 PkW24 PkD24 PkRec PkR24 PkW25 PkR23 PkIter2 PkOpn24 PkR25 PkCopy PkScut PkIter3 PkOpn24b PkRange PkG29 PkBigP PkPerm PkD25 PkNoU PkTurnH PkInvS PkOpn24c PkFrm PkBulk PkOrdT PkAc4, put together. -/
import Derived.Test.YtifekogdhjabaaaGreatDoorQ2
import Derived.Test.YtifekogdhjabaaaGreatDoorQ1
import Derived.Shelf.SlIterI.Nil
import Derived.Lib.SlKeysI
import Derived.Lib.AppendZerosOnto
import Derived.Laws.CopyRow
import Derived.Lib.Overlaps
import Derived.Laws.Externs
import Derived.OrdersIn
import Derived.Maps.RangeRun
set_option linter.unusedVariables false
set_option linter.unusedSimpArgs false
set_option maxRecDepth 100000
set_option maxHeartbeats 4000000

namespace Go.PK
open Go Go.RowKit
def gV:List UInt8→Nat
  | []=>0
  | b::r=>b.toNat%128+128*gV r
theorem oY:∀ (a b:List UInt8),gV (a++b)=gV a+128 ^ a.length*gV b
  | [],b=>by simp [gV]
  | x::a,b=>by
    show x.toNat%128+128*gV (a++b)=x.toNat%128+128*gV a+_
    rw [oY a b,List.length_cons,Nat.pow_succ,Nat.mul_add,Nat.mul_comm (128 ^ a.length) 128,Nat.mul_assoc]; omega
theorem gV_lt:∀ l:List UInt8,gV l < 128 ^ l.length
  | []=>by simp [gV]
  | x::l=>by
    have ih:=gV_lt l
    show x.toNat%128+128*gV l < _
    rw [List.length_cons,Nat.pow_succ]
    omega
theorem sD:∀ n:Nat,gV (bC n)=n:=fun n=>by
  induction n using Nat.strongRecOn with
  | ind n ih =>
    by_cases h:n < 128
    · rw [dk h]
      show (UInt8.ofNat n).toNat%128+128*0=n
      rw [UInt8.toNat_ofNat']
      omega
    · rw [ff h]
      show (UInt8.ofNat (n%128+128)).toNat%128+128*gV (bC (n / 128))=n
      rw [ih (n / 128) (by omega),UInt8.toNat_ofNat']
      omega
theorem gV_last {a:List UInt8} {b:UInt8} (h:b.toNat≠0) (h2:b.toNat < 128):0 < gV (a++[b]):=by
  rw [oY]
  have:gV [b]=b.toNat%128+128*0:=rfl
  have hp:0 < 128 ^ a.length:=Nat.pow_pos (by decide)
  have h3:0 < gV [b]:=by omega
  have:=Nat.mul_pos hp h3
  omega
theorem sE:∀ (a:List UInt8) (b:UInt8),(∀ x∈a,128≤x.toNat)→b.toNat < 128→(a≠[]→b.toNat≠0)→bC (gV (a++[b]))=a++[b]
  | [],b,_,hb,_=>by
    have e:gV ([]++[b])=b.toNat:=by show b.toNat%128+128*0=_; omega
    rw [e,dk hb,UInt8.ofNat_toNat]; rfl
  | x::a,b,ha,hb,h0=>by
    have hb0:=h0 (by simp)
    have hp:=gV_last (a:=a) hb0 hb
    have hx:=ha x (List.mem_cons_self ..)
    have e:gV (x::a++[b])=x.toNat%128+128*gV (a++[b]):=rfl
    rw [e,ff (by omega)]
    have e1:(x.toNat%128+128*gV (a++[b])) / 128=gV (a++[b]):=by omega
    have e2:(x.toNat%128+128*gV (a++[b]))%128+128=x.toNat:=by have:=x.toNat_lt; omega
    rw [e1,e2,sE a b (fun y hy=>ha y (List.mem_cons_of_mem _ hy)) hb (fun _=>hb0),UInt8.ofNat_toNat]; rfl
theorem qY:∀ (n:Nat) (a:List UInt8) (b:UInt8),bC n=a++[b]→a≠[]→b.toNat≠0:=fun n=>by
  induction n using Nat.strongRecOn with
  | ind n ih =>
    intro a b h ha
    by_cases hn:n < 128
    · rw [dk hn] at h
      cases a with
      | nil=>exact absurd rfl ha
      | cons x a=>have:=congrArg List.length h; simp at this
    · rw [ff hn] at h
      cases a with
      | nil=>exact absurd rfl ha
      | cons x a =>
        rw [List.cons_append] at h
        injection h with h1 h2
        cases a with
        | nil =>
          by_cases hm:n / 128 < 128
          · rw [dk hm,List.nil_append] at h2
            injection h2 with h2
            rw [← h2,UInt8.toNat_ofNat']
            omega
          · rw [ff hm] at h2
            have:=congrArg List.length h2
            have hp:=lT (n / 128 / 128)
            rw [List.length_cons,List.nil_append,List.length_singleton] at this; omega
        | cons y a=>exact ih (n / 128) (by omega) (y::a) b h2 (by simp)
theorem numG_hi:∀ (n:Nat) (a:List UInt8) (b:UInt8),bC n=a++[b]→(∀ x∈a,128≤x.toNat)∧b.toNat < 128:=fun n=>by
  induction n using Nat.strongRecOn with
  | ind n ih =>
    intro a b h
    by_cases hn:n < 128
    · rw [dk hn] at h
      cases a with
      | nil =>
        rw [List.nil_append] at h
        injection h with h _
        subst h
        rw [UInt8.toNat_ofNat']
        exact ⟨(fun x hx=>by cases hx),by omega⟩
      | cons x a=>have:=congrArg List.length h; simp at this
    · rw [ff hn] at h
      cases a with
      | nil=>have:=congrArg List.length h; have hp:=lT (n / 128); rw [List.length_cons,List.nil_append,List.length_singleton] at this; omega
      | cons x a =>
        rw [List.cons_append] at h
        injection h with h1 h2
        obtain ⟨g1,g2⟩:=ih (n / 128) (by omega) a b h2
        refine ⟨fun y hy=>?_,g2⟩
        rcases List.mem_cons.1 hy with rfl | hy
        · rw [← h1,UInt8.toNat_ofNat']; omega
        · exact g1 y hy
def jF (l:List UInt8):Nat:=(l.take 10).findIdx fun b=>decide (b.toNat < 128)
def gw (l:List UInt8):Nat×Nat×Int :=
  if jF l < (l.take 10).length then
    if (0 < jF l∧(l.getD (jF l) 0).toNat=0)∨(jF l=9∧1 < (l.getD (jF l) 0).toNat) then (0,0,11) else (gV (l.take (jF l+1)),jF l+1,0)
  else if l.length < 10 then (0,0,10) else (0,0,11)
theorem lU {l:List UInt8} {i:Nat} (h1:i < l.length) (h2:i < 10) (h:∀ j (hj:j < l.length),j < i→128≤l[j].toNat) (hn:l[i].toNat < 128) :
    gw l=if (0 < i∧l[i].toNat=0)∨(i=9∧1 < l[i].toNat) then (0,0,11) else (gV (l.take (i+1)),i+1,0):=by
  have hi:i < (l.take 10).length:=by rw [List.length_take]; omega
  have e:jF l=i:=by
    unfold jF
    rw [List.findIdx_eq hi]
    refine ⟨by rw [List.getElem_take]; exact decide_eq_true hn,fun j hj=>?_⟩
    rw [List.getElem_take]
    exact decide_eq_false (by have:=h j (by omega) hj; omega)
  unfold gw
  rw [e,if_pos hi,List.getD_eq_getElem?_getD,List.getElem?_eq_getElem h1,Option.getD_some]
theorem vP {l:List UInt8} (h:∀ j (hj:j < l.length),j < 10→128≤l[j].toNat):gw l=if l.length < 10 then (0,0,10) else (0,0,11):=by
  have e:¬jF l < (l.take 10).length:=by
    have:jF l=(l.take 10).length:=by
      unfold jF
      rw [List.findIdx_eq_length]
      intro x hx
      obtain ⟨j,hj,rfl⟩:=List.getElem_of_mem hx
      rw [List.length_take] at hj
      rw [List.getElem_take]
      exact decide_eq_false (by have:=h j (by omega) (by omega); omega)
    omega
  unfold gw
  rw [if_neg e]
theorem rn_case (l:List UInt8):(∃ i,∃ (h1:i < l.length),i < 10∧(∀ j (hj:j < l.length),j < i→128≤l[j].toNat)∧l[i].toNat < 128)∨∀ j (hj:j < l.length),j < 10→128≤l[j].toNat:=by
  by_cases h:jF l < (l.take 10).length
  · left
    have h0:=h
    rw [List.length_take] at h0
    refine ⟨jF l,by omega,by omega,fun j hj hjk=>?_,?_⟩
    · have:=List.not_of_lt_findIdx (xs:=l.take 10) (p:=fun b:UInt8=>decide (b.toNat < 128)) (i:=j) hjk
      rw [List.getElem_take] at this
      simp at this; omega
    · have:=List.findIdx_getElem (xs:=l.take 10) (p:=fun b:UInt8=>decide (b.toNat < 128)) (w:=h)
      have e:(l.take 10)[jF l]'h=l[jF l]'(by omega):=List.getElem_take
      rw [← e]
      exact of_decide_eq_true this
  · right
    intro j hj h10
    have hlt:j < jF l:=by
      have:(l.take 10).length≤jF l:=by omega
      rw [List.length_take] at this; omega
    have:=List.not_of_lt_findIdx (xs:=l.take 10) (p:=fun b:UInt8=>decide (b.toNat < 128)) (i:=j) hlt
    rw [List.getElem_take] at this
    simp at this; omega
theorem iV {l:List UInt8} {i:Nat} (h1:i < l.length):l.take (i+1)=l.take i++[l[i]]:=(List.take_append_getElem h1).symm
theorem xz {l:List UInt8} {i:Nat} (h:∀ j (hj:j < l.length),j < i→128≤l[j].toNat):∀ x∈l.take i,128≤x.toNat:=fun x hx=>by
  obtain ⟨j,hj,rfl⟩:=List.getElem_of_mem hx
  rw [List.length_take] at hj
  rw [List.getElem_take]
  exact h j (by omega) (by omega)
theorem vQ:128 ^ 9=9223372036854775808:=by decide
theorem lV {l:List UInt8} {i:Nat} (h1:i < l.length) (h2:i < 10) (hn:l[i].toNat < 128) (hb:¬(i=9∧1 < l[i].toNat)):gV (l.take (i+1)) < 18446744073709551616:=by
  rw [iV h1,oY]
  have h3:=gV_lt (l.take i)
  have h4:(l.take i).length=i:=by rw [List.length_take]; omega
  rw [h4] at h3 ⊢
  have e:gV [l[i]]=l[i].toNat:=by show l[i].toNat%128+128*0=_; omega
  rw [e]
  by_cases h9:i=9
  · subst h9
    rw [vQ] at h3 ⊢
    omega
  · have h5:128 ^ (i+1)≤128 ^ 9:=Nat.pow_le_pow_right (by decide) (by omega)
    rw [vQ,Nat.pow_succ] at h5
    have h6:128 ^ i*l[i].toNat≤128 ^ i*127:=Nat.mul_le_mul_left _ (by omega)
    omega
theorem rn_ok {l:List UInt8} (h:(gw l).2.2=0):l.take (gw l).2.1=bC (gw l).1∧1≤(gw l).2.1∧(gw l).2.1≤l.length∧(gw l).1 < 18446744073709551616:=by
  rcases rn_case l with ⟨i,h1,h2,h3,h4⟩ | h1
  · have e:=lU h1 h2 h3 h4
    rw [e] at h ⊢
    split at h
    · exact absurd h (by decide)
    · rename_i hc
      rw [if_neg hc]
      dsimp only
      rw [not_or] at hc
      refine ⟨?_,by omega,by omega,lV h1 h2 h4 hc.2⟩
      rw [iV h1,sE _ _ (xz h3) h4 (fun h0 h9=>hc.1 ⟨?_,h9⟩)]
      cases i with
      | zero=>simp at h0
      | succ i=>omega
  · rw [vP h1] at h
    split at h <;> exact absurd h (by decide)
theorem rn_err (l:List UInt8):(gw l).2.2=0∨((gw l).1=0∧(gw l).2.1=0∧((gw l).2.2=10∨(gw l).2.2=11)):=by
  unfold gw
  split
  · split
    · exact .inr ⟨rfl,rfl,.inr rfl⟩
    · exact .inl rfl
  · split
    · exact .inr ⟨rfl,rfl,.inl rfl⟩
    · exact .inr ⟨rfl,rfl,.inr rfl⟩
theorem rn_hit {n:Nat} (hn:n < 18446744073709551616) (r:List UInt8):gw (bC n++r)=(n,(bC n).length,0):=by
  have h10:=dL hn
  obtain ⟨a,b,hab⟩:∃ a b,bC n=a++[b]:=by
    have:=lT n
    have h0:bC n≠[]:=fun h=>by rw [h] at this; simp at this
    exact ⟨(bC n).dropLast,(bC n).getLast h0,(List.dropLast_concat_getLast h0).symm⟩
  obtain ⟨g1,g2⟩:=numG_hi n a b hab
  have hlen:(bC n).length=a.length+1:=by rw [hab]; simp
  have hil:a.length < (bC n++r).length:=by rw [List.length_append]; omega
  have hget:(bC n++r)[a.length]=b:=by simp [hab]
  have e:=lU (l:=bC n++r) (i:=a.length) hil (by omega) (fun j hj hja=>by
    have:(bC n++r)[j]=a[j]:=by simp [hab,hja]
    rw [this]; exact g1 _ (List.getElem_mem hja)) (by rw [hget]; exact g2)
  have htk:(bC n++r).take (a.length+1)=bC n:=by rw [← hlen,List.take_left]
  rw [e,hget,htk,sD,hlen,if_neg]
  rw [not_or]
  refine ⟨fun h=>qY n a b hab (fun h0=>by rw [h0] at h; simp at h) h.2,fun h=>?_⟩
  have h1:n=gV (a++[b]):=by rw [← hab,sD]
  rw [oY,h.1,vQ] at h1
  have e2:gV [b]=b.toNat:=by show b.toNat%128+128*0=_; omega
  rw [e2] at h1
  omega
theorem or_add {a c s:Nat} (ha:a < 2 ^ s) (h:a+c*2 ^ s < 18446744073709551616):orK .u64 (a:Nat) ((c*2 ^ s:Nat):Int)=((a+c*2 ^ s:Nat):Int):=by
  have hb:(BitVec.ofInt 64 (a:Int) ||| BitVec.ofInt 64 ((c*2 ^ s:Nat):Int)).toNat=a+c*2 ^ s:=by
    rw [BitVec.toNat_or,BitVec.toNat_ofInt,BitVec.toNat_ofInt]
    have e1:((a:Int)%((2 ^ 64:Nat):Int)).toNat=a:=by
      rw [show ((2 ^ 64:Nat):Int)=18446744073709551616 by decide]; omega
    have e2:(((c*2 ^ s:Nat):Int)%((2 ^ 64:Nat):Int)).toNat=c*2 ^ s:=by
      rw [show ((2 ^ 64:Nat):Int)=18446744073709551616 by decide]; omega
    rw [e1,e2,Nat.or_comm,← Nat.shiftLeft_eq,← Nat.shiftLeft_add_eq_or_of_lt ha,Nat.add_comm]
  unfold orK
  show IntKind.u64.wrap ((BitVec.ofInt 64 (a:Int) ||| BitVec.ofInt 64 ((c*2 ^ s:Nat):Int)).toNat:Nat)=_
  rw [hb,ct ⟨by omega,by omega⟩]
end Go.PK

namespace Go.PK
open Go Go.RowKit
section
variable {P:Program} {n:Nat} {l:List (Nat×Value)} {own:List (Nat×Obj)} {ro:List av} {ty t t':TypeId} {x y:Operand} {k k':IntKind} {a b c:Int}
theorem v_negI (hx:ev l x=some (.int k a)):cx P n l own ro (.unOp .neg t x) ty (.int k (k.wrap (-a))):=by
  intro A w o ha _ ho _
  simp [execOp,ho,ha.eval hx,Op.unary,Op.intArith]
end
theorem ny {l:List UInt8} {i:Nat} (h:i < l.length):gV (l.take (i+1))=gV (l.take i)+l[i].toNat%128*2 ^ (7*i):=by
  rw [iV h,oY,List.length_take,Nat.min_eq_left (by omega),Nat.pow_mul,show 2 ^ 7=128 by decide]
  show _+128 ^ i*(l[i].toNat%128+128*0)=_
  rw [Nat.mul_zero,Nat.add_zero,Nat.mul_comm]
theorem oZ {l:List UInt8} {i:Nat} (h:i≤l.length):gV (l.take i) < 2 ^ (7*i):=by
  have:=gV_lt (l.take i)
  rw [List.length_take,Nat.min_eq_left h] at this
  rw [Nat.pow_mul,show 2 ^ 7=128 by decide]; exact this
theorem acc_step {l:List UInt8} {i:Nat} (h:i < l.length) (hs:gV (l.take (i+1)) < 18446744073709551616) :
    orK .u64 ((gV (l.take i):Nat):Int) (IntKind.u64.wrap (((l[i].toNat%128:Nat):Int)*2 ^ min (((7*i:Nat):Int)).toNat IntKind.u64.bits))=((gV (l.take (i+1)):Nat):Int):=by
  have e:=ny h
  rw [e] at hs ⊢
  have h2:l[i].toNat%128*2 ^ (7*i) < 18446744073709551616:=by omega
  have key:IntKind.u64.wrap (((l[i].toNat%128:Nat):Int)*2 ^ min (((7*i:Nat):Int)).toNat IntKind.u64.bits)=((l[i].toNat%128*2 ^ (7*i):Nat):Int):=by
    by_cases h0:l[i].toNat%128=0
    · rw [h0]; simp [IntKind.wrap,IntKind.bits,IntKind.signed]
    · have h7:7*i≤64:=by
        by_cases h9:7*i≤64
        · exact h9
        · have h8:2 ^ 64≤2 ^ (7*i):=Nat.pow_le_pow_right (by decide) (by omega)
          have h6:1*2 ^ (7*i)≤l[i].toNat%128*2 ^ (7*i):=Nat.mul_le_mul_right _ (by omega)
          rw [show 2 ^ 64=18446744073709551616 by decide] at h8
          omega
      have e7:min (((7*i:Nat):Int)).toNat IntKind.u64.bits=7*i:=by
        rw [Int.toNat_natCast]; show min (7*i) 64=_; omega
      rw [e7]
      have e8:((l[i].toNat%128:Nat):Int)*2 ^ (7*i)=((l[i].toNat%128*2 ^ (7*i):Nat):Int):=by
        rw [Int.natCast_mul,Int.natCast_pow]; rfl
      rw [e8,ct ⟨by omega,by omega⟩]
  rw [key]
  exact or_add (oZ (by omega)) hs
theorem gV_ten {l:List UInt8} {i:Nat} (h:i < l.length) (h9:i≤8):gV (l.take (i+1)) < 18446744073709551616:=by
  have h1:=oZ (l:=l) (i:=i+1) (by omega)
  have h2:2 ^ (7*(i+1))≤2 ^ 63:=Nat.pow_le_pow_right (by decide) (by omega)
  rw [show 2 ^ 63=9223372036854775808 by decide] at h2
  omega
def sF (n:Nat):Int:=if n%2=0 then ((n / 2:Nat):Int) else -1 - ((n / 2:Nat):Int)
theorem uns_sgn {n:Int}:sF (ko n)=n:=by
  unfold sF ko
  split <;> split <;> omega
theorem sgn_uns (n:Nat):ko (sF n)=n:=by
  unfold sF ko
  split <;> split <;> omega
theorem vR {n:Nat} (h:n < 18446744073709551616):-9223372036854775808≤sF n∧sF n≤9223372036854775807:=by
  unfold sF; split <;> omega
theorem and1U {n:Nat} (h:n < 18446744073709551616):andK .u64 (n:Nat) 1=((n%2:Nat):Int):=by
  have hb:(BitVec.ofInt 64 (n:Int) &&& BitVec.ofInt 64 1).toNat=n%2:=by
    rw [BitVec.toNat_and,BitVec.toNat_ofInt,show (BitVec.ofInt 64 1).toNat=1 by decide]
    have e1:((n:Int)%((2 ^ 64:Nat):Int)).toNat=n:=by
      rw [show ((2 ^ 64:Nat):Int)=18446744073709551616 by decide]; omega
    rw [e1,Nat.and_one_is_mod]
  unfold andK
  show IntKind.u64.wrap ((BitVec.ofInt 64 (n:Int) &&& BitVec.ofInt 64 1).toNat:Nat)=_
  rw [hb,ct ⟨by omega,by omega⟩]
theorem xor_uns {n:Nat} (h:n < 18446744073709551616):yr .i64 ((n / 2:Nat):Int) (IntKind.i64.wrap (-((n%2:Nat):Int)))=sF n:=by
  have h2:n / 2 < 9223372036854775808:=by omega
  have hin:=vR h
  unfold sF at hin ⊢
  have e1:(((n / 2:Nat):Int)%((2 ^ 64:Nat):Int)).toNat=n / 2:=by
    rw [show ((2 ^ 64:Nat):Int)=18446744073709551616 by decide]; omega
  unfold yr
  rcases (show n%2=0∨n%2=1 by omega) with h0 | h0
  · rw [h0,if_pos rfl,show IntKind.i64.wrap (-((0:Nat):Int))=0 by decide]
    show IntKind.i64.wrap ((BitVec.ofInt 64 _ ^^^ BitVec.ofInt 64 0).toNat:Nat)=_
    rw [xx,BitVec.toNat_ofInt,e1,eV (by omega)]
  · rw [h0,if_neg (by decide),show IntKind.i64.wrap (-((1:Nat):Int))=-1 by decide]
    show IntKind.i64.wrap ((BitVec.ofInt 64 _ ^^^ BitVec.ofInt 64 (-1)).toNat:Nat)=_
    rw [show BitVec.ofInt 64 (-1)=BitVec.allOnes 64 by decide,BitVec.xor_allOnes,BitVec.toNat_not,BitVec.toNat_ofInt,e1]
    have e2:((2 ^ 64 - 1 - n / 2:Nat):Int)=18446744073709551615 - ((n / 2:Nat):Int):=by
      rw [show (2:Nat) ^ 64=18446744073709551616 by decide]; omega
    rw [e2]
    simp only [IntKind.wrap,IntKind.bits,IntKind.signed]
    simp
    omega
theorem rr_yes {l:List UInt8} {i:Nat} (h1:i < l.length) (h2:i < 10) (h:∀ j (hj:j < l.length),j < i→128≤l[j].toNat) (hn:l[i].toNat < 128) (he:bC (gV (l.take (i+1))%18446744073709551616)=l.take (i+1)) :
    gw l=(gV (l.take (i+1))%18446744073709551616,i+1,0):=by
  have hC:¬((0 < i∧l[i].toNat=0)∨(i=9∧1 < l[i].toNat)):=by
    rw [not_or]
    refine ⟨fun h0=>?_,fun h0=>?_⟩
    · rw [iV h1] at he
      exact qY _ _ _ he (fun h9=>by have:=congrArg List.length h9; rw [List.length_take,List.length_nil] at this; omega) h0.2
    · have hg:=congrArg gV he
      rw [sD] at hg
      have h3:=ny h1
      have h4:l[i].toNat%128=l[i].toNat:=by omega
      have h5:2 ^ (7*i)=9223372036854775808:=by rw [h0.1]
      rw [h4,h5] at h3
      have h6:=h0.2
      omega
  rw [lU h1 h2 h hn,if_neg hC,Nat.mod_eq_of_lt (lV h1 h2 hn (fun h9=>hC (.inr h9)))]
theorem rr_no {l:List UInt8} {i:Nat} (h1:i < l.length) (h2:i < 10) (h:∀ j (hj:j < l.length),j < i→128≤l[j].toNat) (hn:l[i].toNat < 128) (he:bC (gV (l.take (i+1))%18446744073709551616)≠l.take (i+1)) :
    gw l=(0,0,11):=by
  rw [lU h1 h2 h hn,if_pos]
  refine Decidable.byContradiction fun hC=>he ?_
  rw [not_or] at hC
  rw [Nat.mod_eq_of_lt (lV h1 h2 hn hC.2),iV h1,sE _ _ (xz h) hn (fun h0 h9=>hC.1 ⟨?_,h9⟩)]
  cases i with
  | zero=>simp at h0
  | succ i=>omega
theorem mod_step {l:List UInt8} {i:Nat} (h:i < l.length):(gV (l.take i)%18446744073709551616+l[i].toNat%128*(128 ^ i%18446744073709551616)%18446744073709551616)%18446744073709551616=gV (l.take (i+1))%18446744073709551616:=by
  rw [ny h,Nat.pow_mul,show 2 ^ 7=128 by decide,Nat.mul_mod_mod,← Nat.add_mod]
theorem sG (n:Nat):IntKind.u64.wrap (n:Nat)=((n%18446744073709551616:Nat):Int):=by
  simp [IntKind.wrap,IntKind.bits,IntKind.signed]
end Go.PK

namespace Go.PK
open Go Go.RowKit
def ed (l:ByteArray):Nat×ByteArray×Int:=((gw (bl l)).1,l.extract (gw (bl l)).2.1 l.size,(gw (bl l)).2.2)
theorem rn_le (l:List UInt8):(gw l).2.1≤l.length∧(gw l).1 < 18446744073709551616:=by
  rcases rn_err l with h | ⟨h1,h2,_⟩
  · obtain ⟨_,_,h3,h4⟩:=rn_ok h; exact ⟨h3,h4⟩
  · rw [h1,h2]; exact ⟨Nat.zero_le _,by decide⟩
theorem ext_all (l:ByteArray):l.extract 0 l.size=l:=mE (by rw [iy,List.drop_zero,Nat.sub_zero,List.take_of_length_le (by rw [a8]; exact Nat.le_refl _)])
theorem pd (l:ByteArray) {i:Nat} (h:i≤l.size):(l.extract i l.size).size=l.size - i:=by rw [ByteArray.size_extract]; omega
theorem in_err {l:ByteArray} (h:(ed l).2.2≠0):(ed l).1=0∧(ed l).2.1=l∧((ed l).2.2=10∨(ed l).2.2=11):=by
  rcases rn_err (bl l) with h1 | ⟨h1,h2,h3⟩
  · exact absurd h1 h
  · exact ⟨h1,by unfold ed; dsimp only; rw [h2]; exact ext_all l,h3⟩
theorem Ah {l:ByteArray} (h:(ed l).2.2=0):bl l=bC (ed l).1++bl (ed l).2.1∧(ed l).2.1.size < l.size∧(ed l).1 < 18446744073709551616:=by
  obtain ⟨h1,h2,h3,h4⟩:=rn_ok h
  rw [a8] at h3
  have e:(ed l).2.1.size=l.size - (gw (bl l)).2.1:=pd l h3
  refine ⟨?_,by omega,h4⟩
  show bl l=bC (gw (bl l)).1++bl (l.extract (gw (bl l)).2.1 l.size)
  rw [← h1,iy,List.take_of_length_le (l:=List.drop _ _) (by rw [List.length_drop,a8]; exact Nat.le_refl _),List.take_append_drop]
theorem in_le (l:ByteArray):(ed l).2.1.size≤l.size∧(ed l).1 < 18446744073709551616:=by
  by_cases h:(ed l).2.2=0
  · obtain ⟨_,h1,h2⟩:=Ah h; exact ⟨by omega,h2⟩
  · obtain ⟨h1,h2,_⟩:=in_err h; rw [h1,h2]; exact ⟨Nat.le_refl _,by decide⟩
theorem in_hit {n:Nat} (hn:n < 18446744073709551616) {l r:ByteArray} (h:bl l=bC n++bl r):ed l=(n,r,0):=by
  unfold ed
  rw [h,rn_hit hn]
  dsimp only
  have e:l.extract (bC n).length l.size=r:=mE (by
    rw [iy,h,List.drop_left,List.take_of_length_le]
    have:=congrArg List.length h
    rw [a8,List.length_append] at this
    omega)
  rw [e]
def qb {α:Type} (q:ByteArray×Int×List α):List α×Int:=if q.2.1≠0 then ([],q.2.1) else if q.1≠⟨#[]⟩ then ([],11) else (q.2.2,0)
def Bc:Nat→ByteArray→List Int→ByteArray×Int×List Int
  | 0,l,out=>(l,0,out)
  | m+1,l,out=>if (ed l).2.2=0 then Bc m (ed l).2.1 (out++[sF (ed l).1]) else ((ed l).2.1,(ed l).2.2,out++[sF (ed l).1])
def zv (s:ByteArray):List Int×Int:=qb (if (ed s).2.2=0 then Bc (ed s).1 (ed s).2.1 [] else ((ed s).2.1,(ed s).2.2,[]))
theorem ri_hit:∀ (xs:List Int) (l r:ByteArray) (out:List Int),(∀ n∈xs,-9223372036854775808≤n∧n≤9223372036854775807)→bl l=(xs.flatMap fun n=>bC (ko n))++bl r→Bc xs.length l out=(r,0,out++xs)
  | [],l,r,out,_,h=>by
    have:l=r:=mE (by simpa using h)
    rw [this,List.append_nil]; rfl
  | x::xs,l,r,out,hs,h=>by
    rw [List.flatMap_cons,List.append_assoc] at h
    have hx:=hs x (List.mem_cons_self ..)
    obtain ⟨y,hy⟩:∃ y:ByteArray,y=⟨((xs.flatMap fun n=>bC (ko n))++bl r).toArray⟩:=⟨_,rfl⟩
    have hyb:bl y=(xs.flatMap fun n=>bC (ko n))++bl r:=by rw [hy,mY]
    have hi:=in_hit (mG hx) (l:=l) (r:=y) (by rw [hyb]; exact h)
    rw [List.length_cons,Bc,hi]
    dsimp only
    rw [if_pos rfl,ri_hit xs y r _ (fun n h=>hs n (List.mem_cons_of_mem _ h)) hyb,uns_sgn,List.append_assoc]; rfl
theorem ri_ints {xs:List Int} (hl:xs.length < 18446744073709551616) (hs:∀ n∈xs,-9223372036854775808≤n∧n≤9223372036854775807):zv ⟨(cF xs).toArray⟩=(xs,0):=by
  obtain ⟨y,hy⟩:∃ y:ByteArray,y=⟨(xs.flatMap fun n=>bC (ko n)).toArray⟩:=⟨_,rfl⟩
  have hyb:bl y=xs.flatMap fun n=>bC (ko n):=by rw [hy,mY]
  have h1:=in_hit (n:=xs.length) (l:=⟨(cF xs).toArray⟩) (r:=y) hl (by rw [mY,hyb]; rfl)
  unfold zv
  rw [h1]
  dsimp only
  rw [if_pos rfl,ri_hit xs y ⟨#[]⟩ [] hs (by rw [hyb]; simp [bl])]
  rfl
theorem AL:∀ (m:Nat) (l:ByteArray) (out:List Int),(Bc m l out).2.1=0→∃ xs,xs.length=m∧(Bc m l out).2.2=out++xs∧bl l=(xs.flatMap fun n=>bC (ko n))++bl (Bc m l out).1∧∀ n∈xs,-9223372036854775808≤n∧n≤9223372036854775807
  | 0,l,out,_=>⟨[],rfl,by simp [Bc],by simp [Bc],fun n h=>by cases h⟩
  | m+1,l,out,h=>by
    rw [Bc] at h ⊢
    by_cases h0:(ed l).2.2=0
    · rw [if_pos h0] at h ⊢
      obtain ⟨xs,h1,h2,h3,h4⟩:=AL m _ _ h
      obtain ⟨i1,i2,i3⟩:=Ah h0
      refine ⟨sF (ed l).1::xs,by rw [List.length_cons,h1],by rw [h2,List.append_assoc]; rfl,?_,fun n hn=>?_⟩
      · rw [List.flatMap_cons,sgn_uns,List.append_assoc,i1,← h3]
      · rcases List.mem_cons.1 hn with rfl | hn
        · exact vR i3
        · exact h4 n hn
    · rw [if_neg h0] at h; exact absurd h h0
theorem riq_back {s:ByteArray} {xs:List Int} (h:zv s=(xs,0)):bl s=cF xs∧∀ n∈xs,-9223372036854775808≤n∧n≤9223372036854775807:=by
  unfold zv at h
  by_cases h0:(ed s).2.2=0
  · rw [if_pos h0] at h
    unfold qb at h
    split at h
    · rename_i h1; injection h with _ h; exact absurd h h1
    · rename_i h1
      rw [Decidable.not_not] at h1
      split at h
      · injection h with _ h; exact absurd h (by decide)
      · rename_i h2
        rw [Decidable.not_not] at h2
        obtain ⟨ys,g1,g2,g3,g4⟩:=AL _ _ _ h1
        injection h with h _
        rw [h,List.nil_append] at g2
        subst g2
        obtain ⟨i1,_,_⟩:=Ah h0
        refine ⟨?_,g4⟩
        rw [i1,g3,h2]
        unfold cF
        rw [g1]
        have:bl (⟨#[]⟩:ByteArray)=[]:=rfl
        rw [this,List.append_nil]
  · rw [if_neg h0] at h
    unfold qb at h
    rw [if_pos h0] at h
    injection h with _ h; exact absurd h h0
end Go.PK

namespace Go.PK
open Go Go.RowKit
def AM (m:Nat) (l:ByteArray) (e:Int) (out:List Int):ByteArray×Int×List Int:=if e=0 then Bc m l out else (l,e,out)
theorem ut {m i:Nat} (h:i < m) (l:ByteArray) (out:List Int):AM (m - i) l 0 out=AM (m - (i+1)) (ed l).2.1 (ed l).2.2 (out++[sF (ed l).1]):=by
  unfold AM
  rw [if_pos rfl,show m - i=(m - (i+1))+1 by omega,Bc]
theorem sH {m i:Nat} {l:ByteArray} {e:Int} {out:List Int} (h:m≤i∨e≠0):AM (m - i) l e out=(l,e,out):=by
  unfold AM
  by_cases h0:e=0
  · rw [if_pos h0,show m - i=0 by omega,h0]; rfl
  · rw [if_neg h0]
theorem As (s:ByteArray):zv s=qb (AM (ed s).1 (ed s).2.1 (ed s).2.2 []):=rfl
theorem sJ {α:Type} {l:ByteArray} {e:Int} {out:List α} (h:e≠0):qb (l,e,out)=([],e):=by unfold qb; rw [if_pos h]
theorem uu {α:Type} {l:ByteArray} {out:List α} (h:l≠⟨#[]⟩):qb (l,0,out)=([],11):=by unfold qb; rw [if_neg (fun h9=>h9 rfl),if_pos h]
theorem Av {α:Type} {out:List α}:qb ((⟨#[]⟩:ByteArray),0,out)=(out,0):=by unfold qb; rw [if_neg (fun h9=>h9 rfl),if_neg (fun h9=>h9 rfl)]
theorem ext_ext (s:ByteArray) {a i:Nat} (h:a+i≤s.size):(s.extract a s.size).extract i (s.extract a s.size).size=s.extract (a+i) s.size:=mE (by
  rw [iy,iy,iy,pd s (by omega),List.take_of_length_le (l:=List.drop a _) (by rw [List.length_drop,a8]; exact Nat.le_refl _),List.drop_drop,show s.size - a - i=s.size - (a+i) by omega])
theorem xB {s:ByteArray} {a:Nat} (h:a≤s.size):s.extract a s.size=⟨#[]⟩↔¬a < s.size:=by
  constructor
  · intro e hlt
    have:=congrArg ByteArray.size e
    rw [pd s h] at this
    have h2:(⟨#[]⟩:ByteArray).size=0:=rfl
    omega
  · intro hlt
    refine mE ?_
    rw [iy,show s.size - a=0 by omega,List.take_zero]; rfl
theorem in_at {s:ByteArray} {a:Nat} (ha:a≤s.size) {n z:Nat} (h:gw (bl (s.extract a s.size))=(n,z,0)):a+z≤s.size∧1≤z∧n < 18446744073709551616∧ed (s.extract a s.size)=(n,s.extract (a+z) s.size,0):=by
  have h0:(gw (bl (s.extract a s.size))).2.2=0:=by rw [h]
  obtain ⟨_,h2,h3,h4⟩:=rn_ok h0
  rw [a8,pd s ha,h] at h3
  rw [h] at h2 h4
  dsimp only at h2 h3 h4
  refine ⟨by omega,h2,h4,?_⟩
  unfold ed
  rw [h]
  dsimp only
  rw [ext_ext s (by omega)]
end Go.PK

namespace Go.PK
open Go Go.RowKit Go.Maps
structure FG where
  id:Int
  par:Int
  s:FSt
deriving DecidableEq
abbrev EN:=Ord×Int
def fl (fs:List FG) (id:Int):Option FSt:=(fs.find? (fun x=>decide (x.id=id))).map (·.s)
def dx:List FG→Int→FSt→List FG
  | [],_,_=>[]
  | x::l,id,s=>if x.id=id then { x with s:=s }::l else x::dx l id s
def ap (R:FSt→Int→Int×FSt) (fs:List FG) (id n:Int):Int×List FG :=
  match fl fs id with
  | none=>(32,fs)
  | some f=>((R f n).1,dx fs id (R f n).2)
def gb (fs:List FG) (id:Int):Int:=match fl fs id with | none=>0 | some f=>f.free
def cq (L:List EN) (id:Int):Option EN:=L.find? (fun x=>decide (x.1.id=id))
def dl:List EN→EN→List EN
  | [],_=>[]
  | x::l,y=>if x.1.id=y.1.id then y::l else x::dl l y
def fm:List EN→EN→List EN
  | [],y=>[y]
  | x::l,y=>if x.1.id < y.1.id then x::fm l y else y::x::l
structure SG where
  fs:List FG
  tol:Int
  L:List EN
deriving DecidableEq
def aD (s:SG) (x:Ord):Int×SG :=
  if bV x=false then (1,s) else if (cq s.L x.id).isSome=true then (22,s)
  else if (ap bJ s.fs x.fund (x.copies*x.price)).1≠0 then ((ap bJ s.fs x.fund (x.copies*x.price)).1,s)
  else (0,⟨(ap bJ s.fs x.fund (x.copies*x.price)).2,s.tol,fm s.L (bm x,x.price)⟩)
def cj (fs:List FG) (id b n:Int):Int×List FG:=if n > b then ap bJ fs id (n - b) else ap aS fs id (b - n)
def ah (s:SG) (a:Ord) (e:Int):Int×SG :=
  if e≠0 then (e,s) else
  match cq s.L a.id with
  | none=>(32,s)
  | some (x,first) =>
    if x.st≠0∨x.paid≠0 then (50,s)
    else if (x.fund≠a.fund∨¬(x.src=a.src∧x.num=a.num))∨a.copies > x.copies then (1,s)
    else if ¬lQ s.tol a.price first then (61,s)
    else if (cj s.fs x.fund (aL x) (aL (a6 x a))).1≠0 then ((cj s.fs x.fund (aL x) (aL (a6 x a))).1,s)
    else (0,⟨(cj s.fs x.fund (aL x) (aL (a6 x a))).2,s.tol,dl s.L (a6 x a,first)⟩)
def ar (s:SG) (id n:Int):Int×SG :=
  match cq s.L id with
  | none=>(32,s)
  | some (x,first) =>
    if x.st=-1 then (50,s)
    else if n < 1∨n > x.prom - x.st then (1,s)
    else (0,{ s with L:=dl s.L ({ x with st:=x.st+n },first) })
def aE (s:SG) (id:Int):Int×SG :=
  match cq s.L id with
  | none=>(32,s)
  | some (x,first) =>
    if x.st=-1∨x.st > x.paid then (50,s)
    else if (ap aS s.fs x.fund (aL x)).1≠0 then ((ap aS s.fs x.fund (aL x)).1,s)
    else (0,⟨(ap aS s.fs x.fund (aL x)).2,s.tol,dl s.L ({ x with prom:=x.paid,st:=-1 },first)⟩)
def sK (fs:List FG) (fr:Int→Option Int) (id:Int):Int:=match fr id with | some v=>v | none=>gb fs id
def qc (fr:Int→Option Int) (id v:Int):Int→Option Int:=fun j=>if j=id then some v else fr j
def mI (tol:Int) (fs:List FG):List EN→(Int→Option Int)→List Ord→Int×List EN
  | L,fr,[]=>(0,L)
  | L,fr,ln::ls =>
    match cq L ln.id with
    | none=>(32,L)
    | some (x,first) =>
      if bA tol ln (some (x,first))≠0 then (bA tol ln (some (x,first)),L)
      else if sK fs fr x.fund+ln.copies*(x.price - ln.price) < 0 then (60,L)
      else mI tol fs (dl L ({ x with paid:=x.paid+ln.copies },first)) (qc fr x.fund (sK fs fr x.fund+ln.copies*(x.price - ln.price))) ls
def kZ (L:List EN) (fs:List FG) (ln:Ord):List FG :=
  match cq L ln.id with
  | none=>fs
  | some (x,_)=>(ap bK (ap aS fs x.fund (ln.copies*x.price)).2 x.fund (ln.copies*ln.price)).2
def aF (s:SG) (ls:List Ord) (e:Int):Int×SG :=
  if e≠0 then (e,s)
  else if (mI s.tol s.fs s.L (fun _=>none) ls).1≠0 then ((mI s.tol s.fs s.L (fun _=>none) ls).1,s)
  else (0,⟨ls.foldl (kZ s.L) s.fs,s.tol,(mI s.tol s.fs s.L (fun _=>none) ls).2⟩)
def dm (x:Ord):Prop:=(0≤x.price∧x.price≤999999999)∧(1≤x.copies∧x.copies≤9999)∧(0≤x.prom∧x.prom≤9999)∧(0≤x.paid∧x.paid≤9999)∧(-1≤x.st∧x.st≤9999)∧(1≤x.id∧x.id≤999999999)∧(1≤x.fund∧x.fund≤999999999)∧(0≤x.src∧x.src≤999999999)∧(0≤x.num∧x.num≤999999999)
def xC (e:EN):Prop:=dm e.1∧0≤e.2∧e.2≤999999999
def lc (L:List EN):Prop:=L.Pairwise (fun a b=>a.1.id < b.1.id)
structure SGok (s:SG):Prop where
  fs:∀ f∈s.fs,aR f.s
  tol:0≤s.tol∧s.tol≤1000000
  L:∀ e∈s.L,xC e
  srt:lc s.L
theorem uv:∀ {fs:List FG} {id:Int} {s:FSt} {y:FG},y∈dx fs id s→y∈fs∨y.s=s
  | [],_,_,_,h=>.inl h
  | x::l,id,s,y,h=>by
    unfold dx at h
    split at h
    · rcases List.mem_cons.1 h with rfl | h
      · exact .inr rfl
      · exact .inl (.tail _ h)
    · rcases List.mem_cons.1 h with rfl | h
      · exact .inl (.head _)
      · rcases uv h with h | h
        · exact .inl (.tail _ h)
        · exact .inr h
theorem lW {fs:List FG} {id:Int} {f:FSt} (h:fl fs id=some f):∃ x∈fs,x.id=id∧x.s=f:=by
  unfold fl at h
  cases hq:fs.find? (fun x=>decide (x.id=id)) with
  | none=>rw [hq] at h; cases h
  | some x =>
    rw [hq] at h
    have h1:=List.find?_some hq
    have h2:=List.mem_of_find?_eq_some hq
    injection h with h
    exact ⟨x,h2,of_decide_eq_true h1,h⟩
theorem d3 {x:FG} {l:List FG} {id:Int}:fl (x::l) id=if x.id=id then some x.s else fl l id:=by
  unfold fl
  rw [List.find?_cons]
  by_cases h:x.id=id
  · rw [decide_eq_true h,if_pos h]; rfl
  · rw [decide_eq_false h,if_neg h]
theorem kq:∀ (fs:List FG) (id j:Int) (s:FSt),fl (dx fs id s) j=if j=id then (fl fs id).map (fun _=>s) else fl fs j
  | [],id,j,s=>by
    unfold dx fl
    split <;> rfl
  | x::l,id,j,s=>by
    unfold dx
    by_cases h:x.id=id
    · rw [if_pos h,d3]
      dsimp only
      by_cases hj:j=id
      · rw [if_pos (h.trans hj.symm),if_pos hj,d3,if_pos h]; rfl
      · rw [if_neg (fun e=>hj (e.symm.trans h)),if_neg hj,d3,if_neg (fun e=>hj (e.symm.trans h))]
    · rw [if_neg h,d3,kq l]
      by_cases hj:j=id
      · rw [if_pos hj,if_pos hj,if_neg (fun e=>h (e.trans hj)),d3,if_neg h]
      · rw [if_neg hj,if_neg hj,d3]
theorem qZ:∀ {fs:List FG} {id:Int} {f:FSt},fl fs id=some f→dx fs id f=fs
  | [],_,_,h=>rfl
  | x::l,id,f,h=>by
    rw [d3] at h
    unfold dx
    by_cases hx:x.id=id
    · rw [if_pos hx] at h ⊢; cases h; rfl
    · rw [if_neg hx] at h ⊢; rw [qZ h]
theorem fh {R:FSt→Int→Int×FSt} (hR:∀ f n,aR f→aR (R f n).2) {fs:List FG} {id n:Int} (h:∀ f∈fs,aR f.s):∀ f∈(ap R fs id n).2,aR f.s:=by
  intro f hf
  unfold ap at hf
  cases hl:fl fs id with
  | none=>rw [hl] at hf; exact h f hf
  | some g =>
    rw [hl] at hf
    obtain ⟨x,hx,_,rfl⟩:=lW hl
    rcases uv hf with hf | hf
    · exact h f hf
    · rw [hf]; exact hR _ _ (h x hx)
theorem bL {L:List EN} {id:Int} {e:EN} (h:cq L id=some e):e∈L∧e.1.id=id:=by
  have h1:=List.find?_some (p:=fun x:EN=>decide (x.1.id=id)) h
  exact ⟨List.mem_of_find?_eq_some h,of_decide_eq_true h1⟩
theorem dM {x:EN} {l:List EN} {id:Int}:cq (x::l) id=if x.1.id=id then some x else cq l id:=by
  unfold cq
  rw [List.find?_cons]
  by_cases h:x.1.id=id
  · rw [decide_eq_true h,if_pos h]
  · rw [decide_eq_false h,if_neg h]
theorem pe {L:List EN} {id:Int} (h:cq L id=none):∀ e∈L,e.1.id≠id:=fun e he hi=>by
  have:=List.find?_eq_none.1 h e he
  exact this (decide_eq_true hi)
theorem lX:∀ (L:List EN) (y:EN) (j:Int),cq (dl L y) j=if j=y.1.id then (cq L j).map (fun _=>y) else cq L j
  | [],y,j=>by
    unfold dl cq
    split <;> rfl
  | x::l,y,j=>by
    unfold dl
    by_cases h:x.1.id=y.1.id
    · rw [if_pos h,dM,dM]
      by_cases hj:j=y.1.id
      · rw [if_pos hj.symm,if_pos hj,if_pos (h.trans hj.symm)]; rfl
      · rw [if_neg (fun e=>hj e.symm),if_neg hj,if_neg (fun e=>hj (e.symm.trans h))]
    · rw [if_neg h,dM,lX l,dM]
      by_cases hj:j=y.1.id
      · rw [if_pos hj,if_pos hj,if_neg (fun e=>h (e.trans hj)),if_neg (fun e=>h (e.trans hj))]
      · rw [if_neg hj,if_neg hj]
theorem sL:∀ (L:List EN) (y:EN) (j:Int),cq L y.1.id=none→cq (fm L y) j=if j=y.1.id then some y else cq L j
  | [],y,j,h=>by
    unfold fm
    rw [dM]
    by_cases hj:j=y.1.id
    · rw [if_pos hj.symm,if_pos hj]
    · rw [if_neg (fun e=>hj e.symm),if_neg hj]
  | x::l,y,j,h=>by
    rw [dM] at h
    by_cases hx:x.1.id=y.1.id
    · rw [if_pos hx] at h; cases h
    rw [if_neg hx] at h
    unfold fm
    by_cases hl:x.1.id < y.1.id
    · rw [if_pos hl,dM,sL l y j h,dM]
      by_cases hj:j=y.1.id
      · rw [if_pos hj,if_pos hj,if_neg (fun e=>hx (e.trans hj))]
      · rw [if_neg hj,if_neg hj]
    · rw [if_neg hl,dM]
      by_cases hj:j=y.1.id
      · rw [if_pos hj.symm,if_pos hj]
      · rw [if_neg (fun e=>hj e.symm),if_neg hj]
theorem uw:∀ (L:List EN) (y:EN),(dl L y).map (·.1.id)=L.map (·.1.id)
  | [],_=>rfl
  | x::l,y=>by
    unfold dl
    split
    · rename_i h
      rw [List.map_cons,List.map_cons,h]
    · rw [List.map_cons,List.map_cons,uw l]
theorem gX:∀ {L:List EN} {y e:EN},e∈dl L y→e∈L∨e=y
  | [],_,_,h=>.inl h
  | x::l,y,e,h=>by
    unfold dl at h
    split at h
    · rcases List.mem_cons.1 h with rfl | h
      · exact .inr rfl
      · exact .inl (.tail _ h)
    · rcases List.mem_cons.1 h with rfl | h
      · exact .inl (.head _)
      · rcases gX h with h | h
        · exact .inl (.tail _ h)
        · exact .inr h
theorem iW:∀ {L:List EN} {y e:EN},e∈fm L y↔e∈L∨e=y
  | [],y,e=>by unfold fm; simp
  | x::l,y,e=>by
    unfold fm
    split
    · rw [List.mem_cons,iW (L:=l),List.mem_cons,or_assoc]
    · rw [List.mem_cons,or_comm]
theorem pg:∀ (L:List EN) (y:EN),(fm L y).length=L.length+1
  | [],_=>rfl
  | x::l,y=>by
    unfold fm
    split
    · rw [List.length_cons,pg l]; rfl
    · rfl
theorem srt_ids {L M:List EN} (h:L.map (·.1.id)=M.map (·.1.id)) (hs:lc L):lc M:=by
  have h1:(L.map (·.1.id)).Pairwise (· < ·):=List.pairwise_map.2 hs
  rw [h] at h1
  exact List.pairwise_map.1 h1
theorem xE {L:List EN} (hs:lc L) (y:EN):lc (dl L y):=srt_ids (uw L y).symm hs
theorem xF:∀ {L:List EN} {y:EN},lc L→cq L y.1.id=none→lc (fm L y)
  | [],y,_,_=>List.pairwise_singleton _ _
  | x::l,y,hs,h=>by
    rw [dM] at h
    by_cases hx:x.1.id=y.1.id
    · rw [if_pos hx] at h; cases h
    rw [if_neg hx] at h
    obtain ⟨h1,h2⟩:=List.pairwise_cons.1 hs
    unfold fm
    by_cases hl:x.1.id < y.1.id
    · rw [if_pos hl]
      refine List.pairwise_cons.2 ⟨fun e he=>?_,xF h2 h⟩
      rcases iW.1 he with he | rfl
      · exact h1 e he
      · exact hl
    · rw [if_neg hl]
      refine List.pairwise_cons.2 ⟨fun e he=>?_,hs⟩
      have hyx:y.1.id < x.1.id:=by omega
      rcases List.mem_cons.1 he with rfl | he
      · exact hyx
      · exact Int.lt_trans hyx (h1 e he)
theorem vS {x:Ord} (h:dm x):-99980001000000≤aL x∧aL x≤99980001000000:=by
  obtain ⟨⟨o1,o2⟩,_,⟨o5,o6⟩,⟨o7,o8⟩,_⟩:=h
  have a1:x.prom*x.price≤9999*999999999:=Int.mul_le_mul o6 o2 o1 (by decide)
  have a2:x.paid*x.price≤9999*999999999:=Int.mul_le_mul o8 o2 o1 (by decide)
  have a3:=Int.mul_nonneg o5 o1
  have a4:=Int.mul_nonneg o7 o1
  unfold aL
  rw [Int.sub_mul]; omega
theorem SGok.at {s:SG} (h:SGok s) {id:Int} {x:Ord} {first:Int} (hl:cq s.L id=some (x,first)):dm x∧0≤first∧first≤999999999:=h.L _ (bL hl).1
theorem SGok.set {s:SG} (h:SGok s) {fs:List FG} {e:EN} (hf:∀ f∈fs,aR f.s) (he:xC e):SGok ⟨fs,s.tol,dl s.L e⟩ :=
  ⟨hf,h.tol,fun y hy=>by rcases gX hy with hy | rfl; (· exact h.L y hy); exact he,xE h.srt e⟩
theorem zS {x:Ord} (h:bV x=true):dm (bm x)∧0≤x.price∧x.price≤999999999:=by
  have:=(bB x).1 h
  unfold ej at this
  refine ⟨?_,this.2.2.2.2.1⟩
  unfold dm bm
  dsimp only
  omega
theorem move_ok {fs:List FG} {id b n:Int} (h:∀ f∈fs,aR f.s):∀ f∈(cj fs id b n).2,aR f.s:=by
  unfold cj
  split
  · exact fh (fun f n=>enc_ok) h
  · exact fh (fun f n=>mD) h
theorem ux {s:SG} (h:SGok s) (x:Ord):SGok (aD s x).2:=by
  unfold aD
  by_cases h1:bV x=false
  · rw [if_pos h1]; exact h
  rw [if_neg h1]
  by_cases h2:(cq s.L x.id).isSome=true
  · rw [if_pos h2]; exact h
  rw [if_neg h2]
  split
  · exact h
  · have hw:=zS (x:=x) (by simpa using h1)
    have hn:cq s.L x.id=none:=by simpa using h2
    refine ⟨fh (fun f n=>enc_ok) h.fs,h.tol,fun y hy=>?_,xF h.srt hn⟩
    rcases iW.1 hy with hy | rfl
    · exact h.L y hy
    · exact hw
theorem zT {x a:Ord} (hx:dm x) (h1:0≤a.price∧a.price≤999999999) (h2:0≤a.copies∧a.copies≤9999):dm (a6 x a):=by
  obtain ⟨_,o3,_,o7,o9,o11,o12,o13,o14⟩:=hx
  exact ⟨h1,o3,h2,o7,o9,o11,o12,o13,o14⟩
theorem ra {s:SG} (h:SGok s) {a:Ord} {e:Int} (h1:0≤a.price∧a.price≤999999999) (h2:0≤a.copies∧a.copies≤9999):SGok (ah s a e).2:=by
  unfold ah
  split
  · exact h
  · split
    · exact h
    · rename_i x first hl
      obtain ⟨hx,hf⟩:=h.at hl
      split
      · exact h
      · split
        · exact h
        · split
          · exact h
          · split
            · exact h
            · exact h.set (move_ok h.fs) ⟨zT hx h1 h2,hf⟩
theorem pi {s:SG} (h:SGok s) (id:Int) {n:Int}:SGok (ar s id n).2:=by
  unfold ar
  split
  · exact h
  · rename_i x first hl
    obtain ⟨hx,hf⟩:=h.at hl
    split
    · exact h
    · split
      · exact h
      · refine h.set h.fs ⟨?_,hf⟩
        unfold dm at hx ⊢
        dsimp only
        omega
theorem rb {s:SG} (h:SGok s) (id:Int):SGok (aE s id).2:=by
  unfold aE
  split
  · exact h
  · rename_i x first hl
    obtain ⟨hx,hf⟩:=h.at hl
    split
    · exact h
    · split
      · exact h
      · refine h.set (fh (fun f n=>mD) h.fs) ⟨?_,hf⟩
        unfold dm at hx ⊢
        dsimp only
        omega
theorem kr {x:Ord} {n:Int} (hx:dm x) (h:0≤n∧n≤x.st - x.paid):dm { x with paid:=x.paid+n }:=by
  unfold dm at hx ⊢
  dsimp only
  omega
theorem lY {tol:Int} {ln x:Ord} {first:Int} (h:bA tol ln (some (x,first))=0):ln.copies≤x.st - x.paid∧x.st≠-1:=by
  unfold bA at h
  dsimp only at h
  split at h
  · cases h
  · split at h
    · cases h
    · split at h
      · cases h
      · rename_i h1 _ h2
        exact ⟨by omega,h1⟩
theorem goI_ok (tol:Int) (fs:List FG):∀ (ls:List Ord) (L:List EN) (fr:Int→Option Int),(∀ ln∈ls,0≤ln.copies)→(∀ e∈L,xC e)∧lc L→(∀ e∈(mI tol fs L fr ls).2,xC e)∧lc (mI tol fs L fr ls).2
  | [],L,fr,_,h=>h
  | ln::ls,L,fr,hl,h=>by
    unfold mI
    split
    · exact h
    · rename_i x first hx
      split
      · exact h
      · rename_i hc
        split
        · exact h
        · refine goI_ok tol fs ls _ _ (fun y hy=>hl y (.tail _ hy)) ⟨fun y hy=>?_,xE h.2 _⟩
          rcases gX hy with hy | rfl
          · exact h.1 y hy
          · obtain ⟨h1,h2⟩:=h.1 _ (bL hx).1
            exact ⟨kr h1 ⟨hl ln (.head _),(lY (Decidable.of_not_not hc)).1⟩,h2⟩
theorem xG {L:List EN} {fs:List FG} {ln:Ord} (h:∀ f∈fs,aR f.s):∀ f∈kZ L fs ln,aR f.s:=by
  unfold kZ
  split
  · exact h
  · exact fh (fun f n=>vH) (fh (fun f n=>mD) h)
theorem xH {L:List EN}:∀ (ls:List Ord) (fs:List FG),(∀ f∈fs,aR f.s)→∀ f∈ls.foldl (kZ L) fs,aR f.s
  | [],_,h=>h
  | ln::ls,fs,h=>xH ls _ (xG h)
theorem vT {s:SG} (h:SGok s) {ls:List Ord} {e:Int} (hl:∀ ln∈ls,0≤ln.copies):SGok (aF s ls e).2:=by
  unfold aF
  split
  · exact h
  · split
    · exact h
    · obtain ⟨h1,h2⟩:=goI_ok s.tol s.fs ls s.L (fun _=>none) hl ⟨h.L,h.srt⟩
      exact ⟨xH ls _ h.fs,h.tol,h1,h2⟩
structure FM where
  g:FG
  p:Nat
  bel:Value
def cB (x:FM):List Value:=[.int .i64 x.g.id,.int .i64 x.g.par,.int .i64 x.g.s.al,.int .i64 x.g.s.sp,.int .i64 x.g.s.en,x.bel]
def FB (T:TypeId) (ms:List FM):List (Nat×Obj):=ms.map fun x=>(x.p,Obj.cells (cB x).toArray T)
def iz (ms:List FM) (id:Int):Option FM:=ms.find? (fun x=>decide (x.g.id=id))
def lZ:List FM→Int→FSt→List FM
  | [],_,_=>[]
  | x::l,id,s=>if x.g.id=id then { x with g:={ x.g with s:=s } }::l else x::lZ l id s
def bW (ms:List FM):List FG:=ms.map (·.g)
def cC (ms:List FM):Value→Option Value
  | .int .i64 id=>(iz ms id).map fun x=>.pointer (some ⟨x.p,0,none⟩)
  | _=>none
def fR (L:List EN):Value→Option Value
  | .int .i64 id=>(cq L id).map fun x=>yV x.1 x.2
  | _=>none
theorem fj {x:FM} {l:List FM} {id:Int}:iz (x::l) id=if x.g.id=id then some x else iz l id:=by
  unfold iz
  rw [List.find?_cons]
  by_cases h:x.g.id=id
  · rw [decide_eq_true h,if_pos h]
  · rw [decide_eq_false h,if_neg h]
theorem rc:∀ (ms:List FM) (id:Int),fl (bW ms) id=(iz ms id).map (·.g.s)
  | [],_=>rfl
  | x::l,id=>by
    rw [fj]
    show fl (x.g::bW l) id=_
    rw [d3]
    split
    · rfl
    · exact rc l id
theorem sM:∀ (ms:List FM) (id:Int) (s:FSt),bW (lZ ms id s)=dx (bW ms) id s
  | [],_,_=>rfl
  | x::l,id,s=>by
    show bW (lZ (x::l) id s)=dx (x.g::bW l) id s
    unfold lZ dx
    split
    · rfl
    · show x.g::bW (lZ l id s)=_
      rw [sM l]
theorem xI:∀ (ms:List FM) (id j:Int) (s:FSt),(iz (lZ ms id s) j).map (·.p)=(iz ms j).map (·.p)
  | [],_,_,_=>rfl
  | x::l,id,j,s=>by
    unfold lZ
    by_cases h:x.g.id=id
    · rw [if_pos h,fj,fj]
      dsimp only
      split <;> rfl
    · rw [if_neg h,fj,fj]
      split
      · rfl
      · exact xI l id j s
theorem vU (ms:List FM) (id:Int):cC ms (.int .i64 id)=((iz ms id).map (·.p)).map fun p=>.pointer (some ⟨p,0,none⟩):=by
  show (iz ms id).map _=_
  rw [Option.map_map]; rfl
theorem sN (ms:List FM) (id:Int) (s:FSt):cC (lZ ms id s)=cC ms:=by
  funext v
  cases v with
  | int k j =>
    cases k with
    | i64=>rw [vU,vU,xI]
    | _=>rfl
  | _=>rfl
theorem eM:∀ {ms:List FM} {id:Int} {x:FM},iz ms id=some x→∃ a b,ms=a++x::b∧x.g.id=id∧∀ s,lZ ms id s=a++{ x with g:={ x.g with s:=s } }::b
  | [],_,_,h=>by cases h
  | y::l,id,x,h=>by
    rw [fj] at h
    by_cases hy:y.g.id=id
    · rw [if_pos hy] at h
      cases h
      exact ⟨[],l,rfl,hy,fun s=>by unfold lZ; rw [if_pos hy]; rfl⟩
    · rw [if_neg hy] at h
      obtain ⟨a,b,h1,h2,h3⟩:=eM h
      exact ⟨y::a,b,by rw [h1]; rfl,h2,fun s=>by unfold lZ; rw [if_neg hy,h3]; rfl⟩
theorem FB_app (T:TypeId) (a b:List FM):FB T (a++b)=FB T a++FB T b:=List.map_append
theorem lg (T:TypeId) (a b:List FM) (x:FM):FB T (a++x::b)=FB T a++(x.p,Obj.cells (cB x).toArray T)::FB T b:=by rw [FB_app]; rfl
theorem cd {L:List EN} {id:Int}:fR L (.int .i64 id)=(cq L id).map fun x=>yV x.1 x.2:=rfl
theorem nA {L:List EN} {y:EN} (h:(cq L y.1.id).isSome=true):ir (fR L) (.int .i64 y.1.id) (yV y.1 y.2)=fR (dl L y):=by
  funext v
  by_cases hv:v=.int .i64 y.1.id
  · subst hv
    rw [dP,cd,lX,if_pos rfl]
    obtain ⟨e,he⟩:=Option.isSome_iff_exists.1 h
    rw [he]; rfl
  · rw [gg hv]
    cases v with
    | int k j =>
      cases k with
      | i64 =>
        rw [cd,cd,lX,if_neg (fun e=>hv (by rw [e]))]
      | _=>rfl
    | _=>rfl
theorem AP {L:List EN} {y:EN} (h:cq L y.1.id=none):ir (fR L) (.int .i64 y.1.id) (yV y.1 y.2)=fR (fm L y):=by
  funext v
  by_cases hv:v=.int .i64 y.1.id
  · subst hv
    rw [dP,cd,sL L y _ h,if_pos rfl]; rfl
  · rw [gg hv]
    cases v with
    | int k j =>
      cases k with
      | i64 =>
        rw [cd,cd,sL L y _ h,if_neg (fun e=>hv (by rw [e]))]
      | _=>rfl
    | _=>rfl
theorem xJ:fR []=fun _=>none:=by
  funext v
  cases v with
  | int k j=>cases k <;> rfl
  | _=>rfl
end Go.PK

namespace Go.PK
open Go Go.RowKit Go.Maps
structure MapC (P:Program) (kt:TypeId) (es:Array MapEntry) (ck:Nat) (f:Value→Option Value):Prop where
  f:MapF P kt es f
  born:∀ (i:Nat) (e:MapEntry),es[i]?=some e→e.born < ck
  once:∀ (i j:Nat) (e e':MapEntry),es[i]?=some e→es[j]?=some e'→e.born=e'.born→i=j
theorem MapC.empty {P:Program} {kt:TypeId}:MapC P kt #[] 0 (fun _=>none):=⟨MapF.empty,by simp,by simp⟩
section
variable {P:Program} {kt:TypeId} {es:Array MapEntry} {ck:Nat} {f:Value→Option Value}
theorem MapC.push (h:MapC P kt es ck f) {x v:Value} {lx:Lit} (hx:keyOf P kt x=some lx) (hf:f x=none):MapC P kt (es.push ⟨x,v,ck⟩) (ck+1) (ir f x v) where
  f:=h.f.push hx hf
  born:=fun i e he=>by
    rw [Array.getElem?_push] at he
    split at he
    · cases he; exact Nat.lt_succ_self _
    · exact Nat.lt_succ_of_lt (h.born i e he)
  once:=fun i j e e' h1 h2 hb=>by
    rw [Array.getElem?_push] at h1 h2
    split at h1 <;> split at h2
    · subst_vars; rfl
    · cases h1; have:=h.born j e' h2; dsimp only at hb; omega
    · cases h2; have:=h.born i e h1; dsimp only at hb; omega
    · exact h.once i j e e' h1 h2 hb
theorem MapC.put (h:MapC P kt es ck f) {x v:Value} {lx:Lit} {j:Nat} {e0:MapEntry} (hx:keyOf P kt x=some lx) (h0:es[j]?=some e0) (hk0:e0.key=x) :
    MapC P kt (es.modify j fun e=>{ e with key:=x,val:=v }) ck (ir f x v) where
  f:=h.f.put hx h0 hk0
  born:=fun i e he=>by
    rw [Array.getElem?_modify] at he
    split at he
    · subst_vars
      rw [h0] at he
      cases he
      exact h.born _ e0 h0
    · exact h.born i e he
  once:=fun i j' e e' h1 h2 hb=>by
    rw [Array.getElem?_modify] at h1 h2
    have key:∀ k (d:MapEntry),(if j=k then (es[k]?).map (fun e=>{ e with key:=x,val:=v }) else es[k]?)=some d→∃ d',es[k]?=some d'∧d'.born=d.born:=fun k d hd=>by
      split at hd
      · subst_vars
        rw [h0] at hd
        cases hd
        exact ⟨e0,h0,rfl⟩
      · exact ⟨d,hd,rfl⟩
    obtain ⟨d1,a1,a2⟩:=key i e h1
    obtain ⟨d2,b1,b2⟩:=key j' e' h2
    exact h.once i j' d1 d2 a1 b1 (by rw [a2,b2,hb])
theorem MapC.stamped (h:MapC P kt es ck f):MapKept.Stamped es ck:=by
  have key:∀ {β:Type} (g:MapEntry→β),(∀ (i j:Nat) (e e':MapEntry),es[i]?=some e→es[j]?=some e'→g e=g e'→i=j)→(es.toList.map g).Nodup:=fun g hg=>by
    refine List.pairwise_iff_getElem.2 fun i j hi hj hij heq=>?_
    rw [List.length_map] at hi hj
    rw [List.getElem_map,List.getElem_map] at heq
    have:=hg i j _ _ (by rw [← Array.getElem?_toList]; exact List.getElem?_eq_getElem hi) (by rw [← Array.getElem?_toList]; exact List.getElem?_eq_getElem hj) heq
    omega
  refine ⟨fun x hx=>?_,key _ h.once,key _ h.f.one⟩
  obtain ⟨i,hi⟩:=List.getElem?_of_mem hx
  exact h.born i x (by simpa using hi)
end
section
variable {P:Program} {n:Nat} {l:List (Nat×Value)} {own:List (Nat×Obj)} {ro:List av} {lops:List Oper} {Q:Exit→Act→World→Prop} {K:Act→World→Prop}
  {rest:List (Option Bool×Nat)} {i d b:Nat} {ty t kt e:TypeId} {pos:String} {af:Array Edge} {x y m:Operand} {es:Array MapEntry} {clock:Nat} {f:Value→Option Value}
theorem gm {u v:Value} {lx:Lit} (l1:List (Nat×Obj)) {l2:List (Nat×Obj)} (ho:lops[i]?=some ⟨none,.mapUpdate t m x y,ty,pos,af,none⟩) (hm:ev l m=some (.map (some b))) (hx:ev l x=some u) (hy:ev l y=some v)
    (ht:P.underlying t=some (.map kt e)) (KK:Keyed P kt) (hkey:keyOf P kt u=some lx) (hown:own=l1++(b,.map es clock)::l2) (hf:MapC P kt es clock f)
    (h:∀ es' clock',MapC P kt es' clock' (ir f u v)→WX P lops.toArray Q K rest n l (l1++(b,.map es' clock')::l2) ro):WX P lops.toArray Q K ((none,i)::rest) n l own ro:=by
  subst hown
  intro a w ha hw
  have hw1:=bU (lops:=lops) (n:=n) (l:=l) (o:=⟨none,.mapUpdate t m x y,ty,pos,af,none⟩) rfl a ha
  simp only [hJ,List.getElem?_toArray,ho]
  intro w' hl
  rw [if_pos hw1]
  have hM:=hw.later hl
  have hg:w'.heap[b]?=some (.map es clock):=hM.own_at (b,_) (by simp)
  have hrun:∃ es' clock',MapC P kt es' clock' (ir f u v)∧(Instr.mapUpdate t (.map (some b)) u v).run P w'=.ok () { w' with heap:=w'.heap.setIfInBounds b (.map es' clock') }:=by
    rcases hf.f.find KK hkey w' with ⟨h1,h2⟩ | ⟨j,e0,h1,h2,h3,h4⟩
    · exact ⟨_,clock+1,hf.push (v:=v) hkey h2,by simp [Instr.mapUpdate,run_underlying ht,MapKept.run_getObj_map hg,KK.check w' false hkey,h1,MapKept.run_setObj_map _ hg,Result.andThen]⟩
    · refine ⟨_,clock,hf.put (v:=v) hkey h2 h3,?_⟩
      have hs:(Instr.keyThatStays (((es[j]?).map (·.key)).getD u) u).run P w'=.ok u w':=by
        rw [h2]; simp only [Option.map_some,Option.getD_some,h3]; exact KK.stays w' hkey
      simp only [Instr.mapUpdate,Sem.run_bind,run_underlying ht,Result.andThen_ok,MapKept.run_getObj_map hg,KK.check w' false hkey,h1,hs,MapKept.run_setObj_map _ hg]
  obtain ⟨es',clock',hf',hr⟩:=hrun
  unfold Oper.wp
  have hr2:(execOp a.eval ⟨none,.mapUpdate t m x y,ty,pos,af,none⟩).run P w'=.ok .skip { w' with heap:=w'.heap.setIfInBounds b (.map es' clock') }:=by
    simp only [execOp,ha.eval hm,ha.eval hx,ha.eval hy,Sem.run_bind,hr,Result.andThen_ok,Sem.run_pure]
  rw [hr2]
  show hJ P lops.toArray Q K rest (a.put none undef) _
  exact h es' clock' hf' a _ ha (hM.turn (gy hg))
end
theorem cG {n:Int} (h:aj n):(Lit.int .i64 n).wf=true:=by
  unfold aj at h
  simp only [Lit.wf,Bool.and_eq_true,decide_eq_true_eq]
  have h1:IntKind.i64.min=-9223372036854775808:=by decide
  have h2:IntKind.i64.max=9223372036854775807:=by decide
  omega
def rnil:Value→Option (DataW Unit×List MemPlace):=fun _=>some (.nil,[])
def kInt:Value→Int
  | .int _ n=>n
  | _=>0
def fY (f:Value→Option Value) (ids:List Int):Prop:=ids.Nodup∧∀ v,(f v).isSome=true↔∃ id∈ids,v=.int .i64 id
section
variable {P:Program} {kt:TypeId} {es:Array MapEntry} {ck:Nat} {f:Value→Option Value} {ids:List Int}
theorem MapC.mem (h:MapC P kt es ck f) (v:Value):(∃ e∈es.toList,e.key=v)↔(f v).isSome=true:=by
  constructor
  · rintro ⟨e,he,rfl⟩
    obtain ⟨i,hi⟩:=List.getElem?_of_mem he
    rw [h.f.val i e (by simpa using hi)]; rfl
  · intro hv
    obtain ⟨u,hu⟩:=Option.isSome_iff_exists.1 hv
    obtain ⟨i,e,h1,h2,_⟩:=h.f.has v u hu
    exact ⟨e,List.mem_of_getElem? (i:=i) (by simpa using h1),h2⟩
theorem MapC.keys (h:MapC P kt es ck f) (hk:fY f ids):(es.toList.map fun e=>kInt e.key).Perm ids:=by
  have hnd:=h.stamped.2.2
  have hint:∀ e∈es.toList,∃ id∈ids,e.key=.int .i64 id:=fun e he=>(hk.2 e.key).1 ((h.mem e.key).1 ⟨e,he,rfl⟩)
  refine (List.perm_ext_iff_of_nodup ?_ hk.1).2 fun z=>?_
  · have h1:es.toList.Pairwise (fun a b=>a.key≠b.key):=List.pairwise_map.1 hnd
    refine List.pairwise_map.2 (h1.imp_of_mem fun {a b} ha hb hne he=>hne ?_)
    obtain ⟨x,_,hx⟩:=hint a ha
    obtain ⟨y,_,hy⟩:=hint b hb
    rw [hx,hy] at he ⊢
    exact congrArg _ he
  · rw [List.mem_map]
    constructor
    · rintro ⟨e,he,rfl⟩
      obtain ⟨x,hx,hk⟩:=hint e he
      rw [hk]; exact hx
    · intro hz
      obtain ⟨e,he,hk⟩:=(h.mem (.int .i64 z)).2 ((hk.2 _).2 ⟨z,hz,rfl⟩)
      exact ⟨e,he,by rw [hk]; rfl⟩
theorem MapC.size (h:MapC P kt es ck f) (hk:fY f ids):es.size=ids.length:=by
  have:=(h.keys hk).length_eq
  rwa [List.length_map,Array.length_toList] at this
theorem MapC.owns (h:MapC P kt es ck f) (hk:fY f ids) (hkt:P.underlying kt=some (.int .i64)) (hn:ids.length≤maxLen) {w:World} {b:Nat} (hb:w.heap[b]?=some (.map es ck)) :
    ∃ D:DataW Unit,w.ownsMap P kt rnil b es.size D∧Maps.size D=ids.length∧(intKeys D).Perm ids:=by
  have hr:∀ e∈es.toList,∃ (id:Int),keyOf P kt e.key=some (.int .i64 id)∧kInt e.key=id:=fun e he=>by
    obtain ⟨i,hi⟩:=List.getElem?_of_mem he
    obtain ⟨kl,hkl⟩:=h.f.key i e (by simpa using hi)
    obtain ⟨z,hz1,hz2,_⟩:=Maps.keyOf_i64 hkt hkl
    exact ⟨z,by rw [hkl,hz2],by rw [hz1]; rfl⟩
  have hrd:∀ e∈es.toList,∃ y,Go.WideElems.rd P kt rnil e=some y∧intOf y.1=kInt e.key:=fun e he=>by
    obtain ⟨id,h1,h2⟩:=hr e he
    exact ⟨(.int .i64 id,.nil),by unfold Go.WideElems.rd; rw [h1]; rfl,h2.symm⟩
  refine ⟨.map ((es.toList.map (Go.WideElems.rg P kt rnil)).foldr DataW.insert []),⟨es,ck,hb,⟨by rw [h.size hk]; exact hn,h.stamped,fun e he=>?_⟩,Nat.le_refl _,rfl⟩,?_,?_⟩
  · obtain ⟨y,hy,_⟩:=hrd e he
    exact ⟨y,hy⟩
  · show List.length _=_
    rw [length_sorted,List.length_map,Array.length_toList,h.size hk]
  · refine List.Perm.trans ?_ (h.keys hk)
    show ((es.toList.map (Go.WideElems.rg P kt rnil)).foldr DataW.insert [] |>.map fun p=>intOf p.1).Perm _
    refine ((WideShapes.sorted_perm _).map _).trans ?_
    rw [List.map_map]
    refine List.Perm.of_eq (List.map_congr_left fun e he=>?_)
    obtain ⟨y,h1,h2⟩:=hrd e he
    show intOf (Go.WideElems.rg P kt rnil e).1=_
    unfold Go.WideElems.rg
    rw [h1]
    exact h2
end
theorem uy {ss ids:List Int} (h:ss.Perm ids) (hs:ids.Pairwise (· < ·)):ss.mergeSort (fun x y=>decide (x≤y))=ids:=by
  have tr:∀ a b c:Int,leI a b=true→leI b c=true→leI a c=true:=fun a b c h1 h2=>by simp only [leI,decide_eq_true_eq] at *; exact Int.le_trans h1 h2
  have to:∀ a b:Int,(leI a b || leI b a)=true:=fun a b=>by simp only [leI,Bool.or_eq_true,decide_eq_true_eq]; exact Int.le_total a b
  refine List.Perm.eq_of_pairwise (le:=fun a b=>leI a b=true) (fun a b _ _ h1 h2=>?_) (List.pairwise_mergeSort tr to ss) (hs.imp fun {a b} h=>by simp only [leI,decide_eq_true_eq]; omega) ((List.mergeSort_perm ss leI).trans h)
  simp only [leI,decide_eq_true_eq] at h1 h2
  omega
theorem xK {w w':World} {e:TypeId} {v:Value} {ids:List Int} (h:w'.ownsRow w.heap.size e 1 v ids.length (ids.map (Value.int .i64))) (hin:∀ n∈ids,aj n):ab i8 (fun b=>w.heap.size≤b) w' v ids:=by
  obtain ⟨hl,⟨rfl,hn⟩ | ⟨g,cap,cur,rfl,hb,hg,hc,hm,hsz,ht⟩⟩:=h
  · have:ids=[]:=List.eq_nil_of_length_eq_zero hn
    subst this
    exact ⟨none,0,rfl,Nat.le_refl _,Nat.zero_le _,fun h=>absurd h (Nat.not_lt_zero _)⟩
  · refine ⟨_,cap,rfl,hc,by unfold maxLen at hm; omega,fun _=>⟨g,0,rfl,hb,dS hg,fun j hj=>⟨[.int .i64 ids[j]],fun i hi=>?_,?_⟩⟩⟩
    · have hi0:i=0:=by simpa using hi
      subst hi0
      rw [cell_of_row w' g _ cur e (0,0) hg]
      have h1:(cur.toList.take (ids.length*1))[j]?=(ids.map (Value.int .i64))[j]?:=by rw [ht]
      rw [List.getElem?_take,if_pos (by omega),List.getElem?_map,List.getElem?_eq_getElem hj] at h1
      show cur[0+j*1+0]?=_
      rw [show 0+j*1+0=j by omega,← Array.getElem?_toList,h1]; rfl
    · exact ⟨rfl,hin _ (List.getElem_mem hj)⟩
end Go.PK

namespace Go.PK
open Go Go.RowKit Go.Maps
theorem pj {L:List EN} (hs:lc L):fY (fR L) (L.map (·.1.id)):=by
  refine ⟨List.pairwise_map.2 (hs.imp fun {a b} h=>by omega),fun v=>?_⟩
  cases v with
  | int k j =>
    cases k with
    | i64 =>
      rw [cd,Option.isSome_map]
      constructor
      · intro h
        obtain ⟨e,he⟩:=Option.isSome_iff_exists.1 h
        obtain ⟨h1,h2⟩:=bL he
        exact ⟨j,List.mem_map.2 ⟨e,h1,h2⟩,rfl⟩
      · rintro ⟨id,hid,hv⟩
        injection hv with _ hv
        subst hv
        cases hl:cq L j with
        | none =>
          obtain ⟨e,h1,h2⟩:=List.mem_map.1 hid
          exact absurd h2 (pe hl e h1)
        | some e=>rfl
    | _=>exact ⟨fun h=>(by cases h),fun ⟨id,_,h⟩=>(by cases h)⟩
  | _=>exact ⟨fun h=>(by cases h),fun ⟨id,_,h⟩=>(by cases h)⟩
theorem xO {L:List EN} (h:lc L):(L.map (·.1.id)).Pairwise (· < ·):=by
  unfold lc at h
  exact List.pairwise_map.2 h
theorem uC:∀ {ms:List FM} {id:Int},iz ms id=none→∀ x∈ms,x.g.id≠id:=fun {ms id} h x hx hi=>by
  have:=List.find?_eq_none.1 h x hx
  exact this (decide_eq_true hi)
theorem uD {ms:List FM} (hs:(ms.map (·.g.id)).Pairwise (· < ·)):fY (cC ms) (ms.map (·.g.id)):=by
  refine ⟨hs.imp fun {a b} h=>by omega,fun v=>?_⟩
  cases v with
  | int k j =>
    cases k with
    | i64 =>
      show ((iz ms j).map _).isSome=true↔_
      rw [Option.isSome_map]
      constructor
      · intro h
        obtain ⟨e,he⟩:=Option.isSome_iff_exists.1 h
        obtain ⟨a,b,h1,h2,_⟩:=eM he
        exact ⟨j,List.mem_map.2 ⟨e,by rw [h1]; simp,h2⟩,rfl⟩
      · rintro ⟨id,hid,hv⟩
        injection hv with _ hv
        subst hv
        cases hl:iz ms j with
        | none =>
          obtain ⟨e,h1,h2⟩:=List.mem_map.1 hid
          exact absurd h2 (uC hl e h1)
        | some e=>rfl
    | _=>exact ⟨fun h=>(by cases h),fun ⟨id,_,h⟩=>(by cases h)⟩
  | _=>exact ⟨fun h=>(by cases h),fun ⟨id,_,h⟩=>(by cases h)⟩
def Ai (e:EN):List Int:=[e.1.id,e.1.fund,e.1.src,e.1.num,e.1.copies,e.1.price,e.1.prom,e.1.paid,e.1.st,e.2]
def jG (L:List EN):List Int:=L.flatMap Ai
def xP (f:FG):List Int:=[f.id,f.par,f.s.al,f.s.sp,f.s.en]
def er (fs:List FG):List Int:=fs.flatMap xP
theorem ks {α β:Type} (f:α→List β) {L:List α} {k:Nat} (hk:k < L.length):(L.take (k+1)).flatMap f=(L.take k).flatMap f++f L[k]:=by
  rw [List.take_succ_eq_append_getElem hk,List.flatMap_append,List.flatMap_cons,List.flatMap_nil,List.append_nil]
theorem j5:∀ (L:List EN),(jG L).length=L.length*10
  | []=>rfl
  | e::l=>by show (Ai e++jG l).length=_; rw [List.length_append,j5 l,List.length_cons]; show 10+_=_; omega
theorem fS:∀ (L:List FG),(er L).length=L.length*5
  | []=>rfl
  | e::l=>by show (xP e++er l).length=_; rw [List.length_append,fS l,List.length_cons]; show 5+_=_; omega
theorem enI_in {e:EN} (h:xC e):∀ n∈Ai e,aj n:=by
  obtain ⟨h,h2⟩:=h
  unfold dm at h
  unfold Ai aj
  simp only [List.forall_mem_cons,List.not_mem_nil,false_imp_iff,implies_true,and_true]
  omega
theorem xQ {L:List EN} (h:∀ e∈L,xC e):∀ n∈jG L,aj n:=fun n hn=>by
  obtain ⟨e,he,h1⟩:=List.mem_flatMap.1 hn
  exact enI_in (h e he) n h1
def fgN (f:FG):Prop:=(1≤f.id∧f.id≤9223372036854775807)∧(0≤f.par∧f.par≤9223372036854775807)∧aR f.s
theorem fnI_in {f:FG} (h:fgN f):∀ n∈xP f,aj n:=by
  unfold fgN aR at h
  unfold xP aj
  simp only [List.forall_mem_cons,List.not_mem_nil,false_imp_iff,implies_true,and_true]
  omega
theorem ku {L:List FG} (h:∀ e∈L,fgN e):∀ n∈er L,aj n:=fun n hn=>by
  obtain ⟨e,he,h1⟩:=List.mem_flatMap.1 hn
  exact fnI_in (h e he) n h1
theorem wc {L:List EN} (h:∀ e∈L,xC e):∀ n∈L.map (·.1.id),aj n:=fun n hn=>by
  obtain ⟨e,he,rfl⟩:=List.mem_map.1 hn
  have:=(h e he).1
  unfold dm at this
  unfold aj
  omega
theorem lkL_at {L:List EN} (hs:lc L) {k:Nat} (hk:k < L.length):cq L L[k].1.id=some L[k]:=by
  cases h:cq L L[k].1.id with
  | none=>exact absurd rfl (pe h _ (List.getElem_mem hk))
  | some e =>
    obtain ⟨h1,h2⟩:=bL h
    obtain ⟨j,hj,rfl⟩:=List.getElem_of_mem h1
    have hp:=List.pairwise_iff_getElem.1 hs
    rcases Nat.lt_trichotomy j k with h | h | h
    · have:=hp j k hj hk h; omega
    · subst h; rfl
    · have:=hp k j hk hj h; omega
end Go.PK

namespace Go.PK
open Go Go.RowKit Go.Maps
def lh (id:Int) (e:EN):Int:=if e.1.fund=id then aL e.1 else 0
def dp:List EN→Int→Int
  | [],_=>0
  | e::l,id=>lh id e+dp l id
theorem uE:∀ (L:List EN) (y:EN) (id:Int),dp (fm L y) id=dp L id+lh id y
  | [],y,id=>by unfold fm dp; show lh id y+dp [] id=dp [] id+_; omega
  | x::l,y,id=>by
    unfold fm
    split
    · show lh id x+dp (fm l y) id=lh id x+dp l id+_
      rw [uE l]; omega
    · show lh id y+(lh id x+dp l id)=lh id x+dp l id+_
      omega
theorem uF:∀ (L:List EN) (y e:EN) (id:Int),cq L y.1.id=some e→dp (dl L y) id=dp L id - lh id e+lh id y
  | [],y,e,id,h=>by cases h
  | x::l,y,e,id,h=>by
    rw [dM] at h
    unfold dl
    by_cases hx:x.1.id=y.1.id
    · rw [if_pos hx] at h ⊢
      injection h with h
      subst h
      show lh id y+dp l id=lh id x+dp l id - lh id x+_
      omega
    · rw [if_neg hx] at h ⊢
      show lh id x+dp (dl l y) id=lh id x+dp l id - _+_
      rw [uF l y e id h]; omega
def kC (x:Ord):Prop:=x.paid≤x.prom∧x.prom≤x.copies∧(x.st=-1→x.prom=x.paid)∧(x.st≠-1→x.paid≤x.st∧x.st≤x.prom)
structure INV (s:SG):Prop where
  ok:SGok s
  bal:∀ e∈s.L,kC e.1
  en:∀ id f,fl s.fs id=some f→f.en=dp s.L id
  has:∀ e∈s.L,(fl s.fs e.1.fund).isSome=true
theorem res_nn {x:Ord} (h:dm x) (hb:kC x):0≤aL x:=by
  unfold aL
  exact Int.mul_nonneg (by have:=hb.1; omega) h.1.1
theorem trm_nn {e:EN} {id:Int} (h:dm e.1) (hb:kC e.1):0≤lh id e:=by
  unfold lh
  split
  · exact res_nn h hb
  · exact Int.le_refl _
theorem xT:∀ {L:List EN} (id:Int),(∀ e∈L,dm e.1∧kC e.1)→0≤dp L id
  | [],_,_=>Int.le_refl _
  | x::l,id,h=>by
    have h1:=trm_nn (id:=id) (h x (.head _)).1 (h x (.head _)).2
    have h2:=xT (L:=l) id fun e he=>h e (.tail _ he)
    show 0≤lh id x+dp l id
    omega
theorem xU:∀ {L:List EN} {e:EN} (id:Int),e∈L→(∀ e∈L,dm e.1∧kC e.1)→lh id e≤dp L id
  | x::l,e,id,he,h=>by
    have h1:=trm_nn (id:=id) (h x (.head _)).1 (h x (.head _)).2
    have h2:=xT (L:=l) id fun e he=>h e (.tail _ he)
    show _≤lh id x+dp l id
    rcases List.mem_cons.1 he with rfl | he
    · omega
    · have:=xU (L:=l) id he fun e he=>h e (.tail _ he)
      omega
theorem INV.both {s:SG} (h:INV s):∀ e∈s.L,dm e.1∧kC e.1:=fun e he=>⟨(h.ok.L e he).1,h.bal e he⟩
theorem INV.set {s:SG} (h:INV s) {x y:Ord} {first:Int} {fs:List FG} (hl:cq s.L y.id=some (x,first)) (hf:y.fund=x.fund) (hok:SGok ⟨fs,s.tol,dl s.L (y,first)⟩) (hb:kC y)
    (hen:∀ id f,fl fs id=some f→∃ g,fl s.fs id=some g∧f.en=g.en+(if id=x.fund then aL y - aL x else 0)) (hhas:∀ id,(fl fs id).isSome=(fl s.fs id).isSome):INV ⟨fs,s.tol,dl s.L (y,first)⟩:=by
  refine ⟨hok,fun e he=>?_,fun id f hlf=>?_,fun e he=>?_⟩
  · rcases gX he with he | rfl
    · exact h.bal e he
    · exact hb
  · obtain ⟨g,h1,h2⟩:=hen id f hlf
    show _=dp (dl s.L (y,first)) id
    rw [uF s.L (y,first) (x,first) id hl,h2,h.en id g h1]
    unfold lh
    dsimp only
    rw [hf]
    by_cases hi:x.fund=id
    · rw [if_pos hi.symm,if_pos hi,if_pos hi]; omega
    · rw [if_neg (fun e=>hi e.symm),if_neg hi,if_neg hi]; omega
  · rw [hhas]
    rcases gX he with he | rfl
    · exact h.has e he
    · show (fl s.fs y.fund).isSome=true
      rw [hf]
      exact h.has _ (bL hl).1
theorem l3 (R:FSt→Int→Int×FSt) (fs:List FG) (id n j:Int):(fl (ap R fs id n).2 j).isSome=(fl fs j).isSome:=by
  unfold ap
  cases hl:fl fs id with
  | none=>rfl
  | some f =>
    dsimp only
    rw [kq]
    split
    · rename_i h; rw [h,hl]; rfl
    · rfl
theorem nB {R:FSt→Int→Int×FSt} {d:Int} {fs:List FG} {id n:Int} (hR:∀ f,(R f n).1=0→(R f n).2.en=f.en+d) (h0:(ap R fs id n).1=0) :
    ∀ j f,fl (ap R fs id n).2 j=some f→∃ g,fl fs j=some g∧f.en=g.en+(if j=id then d else 0):=by
  intro j f hj
  unfold ap at hj h0
  cases hl:fl fs id with
  | none=>rw [hl] at h0; cases h0
  | some g =>
    rw [hl] at hj h0
    dsimp only at hj h0
    rw [kq] at hj
    by_cases hji:j=id
    · rw [if_pos hji,hl] at hj
      injection hj with hj
      subst hj
      exact ⟨g,by rw [hji,hl],by rw [if_pos hji]; exact hR g h0⟩
    · rw [if_neg hji] at hj
      exact ⟨f,hj,by rw [if_neg hji,Int.add_zero]⟩
theorem encP_0 {f:FSt} {n:Int} (h:(bJ f n).1=0):(bJ f n).2.en=f.en+n∧0≤n∧n≤f.free:=by
  unfold bJ at h ⊢
  by_cases h1:n < 0
  · rw [if_pos h1] at h; cases h
  · rw [if_neg h1] at h ⊢
    by_cases h2:n > f.free
    · rw [if_pos h2] at h; cases h
    · rw [if_neg h2]; exact ⟨rfl,by omega,by omega⟩
theorem relP_0 {f:FSt} {n:Int} (h:(aS f n).1=0):(aS f n).2.en=f.en+-n∧0≤n∧n≤f.en:=by
  unfold aS at h ⊢
  by_cases h1:n < 0
  · rw [if_pos h1] at h; cases h
  · rw [if_neg h1] at h ⊢
    by_cases h2:n > f.en
    · rw [if_pos h2] at h; cases h
    · rw [if_neg h2]; exact ⟨rfl,by omega,by omega⟩
theorem move_en {fs:List FG} {id b n:Int} (h0:(cj fs id b n).1=0):∀ j f,fl (cj fs id b n).2 j=some f→∃ g,fl fs j=some g∧f.en=g.en+(if j=id then n - b else 0):=by
  unfold cj at h0 ⊢
  by_cases hn:n > b
  · rw [if_pos hn] at h0 ⊢
    exact nB (fun f hf=>(encP_0 hf).1) h0
  · rw [if_neg hn] at h0 ⊢
    refine nB (fun f hf=>?_) h0
    rw [(relP_0 hf).1]; omega
theorem move_has (fs:List FG) (id b n j:Int):(fl (cj fs id b n).2 j).isSome=(fl fs j).isSome:=by
  unfold cj
  split
  · exact l3 _ _ _ _ _
  · exact l3 _ _ _ _ _
theorem INV.place {s:SG} (h:INV s) (x:Ord):INV (aD s x).2:=by
  have hok:=ux h.ok x
  unfold aD at hok ⊢
  by_cases h1:bV x=false
  · rw [if_pos h1]; exact h
  rw [if_neg h1] at hok ⊢
  by_cases h2:(cq s.L x.id).isSome=true
  · rw [if_pos h2]; exact h
  rw [if_neg h2] at hok ⊢
  by_cases h3:(ap bJ s.fs x.fund (x.copies*x.price)).1≠0
  · rw [if_pos h3]; exact h
  rw [if_neg h3] at hok ⊢
  have h0:=Decidable.of_not_not h3
  have hw:=(zS (x:=x) (by simpa using h1)).1
  have hre:aL (bm x)=x.copies*x.price:=by show (x.copies - 0)*x.price=_; rw [Int.sub_zero]
  refine ⟨hok,fun e he=>?_,fun id f hlf=>?_,fun e he=>?_⟩
  · rcases iW.1 he with he | rfl
    · exact h.bal e he
    · unfold dm bm at hw
      unfold kC bm
      dsimp only at hw ⊢
      omega
  · obtain ⟨g,h4,h5⟩:=nB (fun f hf=>(encP_0 hf).1) h0 id f hlf
    show _=dp (fm s.L (bm x,x.price)) id
    rw [uE,h5,h.en id g h4]
    unfold lh
    show _=dp s.L id+(if x.fund=id then aL (bm x) else 0)
    rw [hre]
    by_cases hi:x.fund=id
    · rw [if_pos hi.symm,if_pos hi]
    · rw [if_neg (fun e=>hi e.symm),if_neg hi]
  · show (fl (ap bJ s.fs x.fund (x.copies*x.price)).2 e.1.fund).isSome=true
    rw [l3]
    rcases iW.1 he with he | rfl
    · exact h.has e he
    · show (fl s.fs x.fund).isSome=true
      unfold ap at h0
      cases hl:fl s.fs x.fund with
      | none=>rw [hl] at h0; cases h0
      | some f=>rfl
theorem INV.receive {s:SG} (h:INV s) (id n:Int):INV (ar s id n).2:=by
  have hok:=pi h.ok id (n:=n)
  unfold ar at hok ⊢
  cases hl:cq s.L id with
  | none=>exact h
  | some z =>
    obtain ⟨x,first⟩:=z
    rw [hl] at hok
    dsimp only at hok ⊢
    by_cases h1:x.st=-1
    · rw [if_pos h1]; exact h
    rw [if_neg h1] at hok ⊢
    by_cases h2:n < 1∨n > x.prom - x.st
    · rw [if_pos h2]; exact h
    rw [if_neg h2] at hok ⊢
    have hid:=(bL hl).2
    have hb:=h.bal _ (bL hl).1
    refine h.set (x:=x) (y:={ x with st:=x.st+n }) (show cq s.L x.id=_ by rw [show x.id=id from hid]; exact hl) rfl hok ?_ (fun j f hj=>⟨f,hj,?_⟩) (fun _=>rfl)
    · obtain ⟨b1,b2,b3,b4⟩:=hb
      have b4:=b4 h1
      obtain ⟨_,_,_,⟨o7,_⟩,_⟩:=(h.ok.L _ (bL hl).1).1
      unfold kC
      dsimp only at b1 b2 b3 b4 o7 ⊢
      omega
    · show f.en=f.en+if j=x.fund then aL { x with st:=x.st+n } - aL x else 0
      rw [show aL { x with st:=x.st+n }=aL x from rfl,Int.sub_self]
      split <;> omega
theorem INV.cancel {s:SG} (h:INV s) (id:Int):INV (aE s id).2:=by
  have hok:=rb h.ok id
  unfold aE at hok ⊢
  cases hl:cq s.L id with
  | none=>exact h
  | some z =>
    obtain ⟨x,first⟩:=z
    rw [hl] at hok
    dsimp only at hok ⊢
    by_cases h1:x.st=-1∨x.st > x.paid
    · rw [if_pos h1]; exact h
    rw [if_neg h1] at hok ⊢
    by_cases h2:(ap aS s.fs x.fund (aL x)).1≠0
    · rw [if_pos h2]; exact h
    rw [if_neg h2] at hok ⊢
    have h0:=Decidable.of_not_not h2
    have hid:=(bL hl).2
    have hb:=h.bal _ (bL hl).1
    refine h.set (x:=x) (y:={ x with prom:=x.paid,st:=-1 }) (show cq s.L x.id=_ by rw [show x.id=id from hid]; exact hl) rfl hok ?_ (fun j f hj=>?_) (fun j=>l3 _ _ _ _ _)
    · obtain ⟨b1,b2,b3,b4⟩:=hb
      unfold kC
      dsimp only at b1 b2 b3 b4 ⊢
      omega
    · obtain ⟨g,h4,h5⟩:=nB (fun f hf=>(relP_0 hf).1) h0 j f hj
      refine ⟨g,h4,?_⟩
      rw [h5,show aL { x with prom:=x.paid,st:=-1 }=0 from by show (x.paid - x.paid)*x.price=0; rw [Int.sub_self,Int.zero_mul]]
      split <;> omega
theorem INV.answer {s:SG} (h:INV s) {a:Ord} {e:Int} (k1:0≤a.price∧a.price≤999999999) (k2:0≤a.copies∧a.copies≤9999):INV (ah s a e).2:=by
  have hok:=ra h.ok (e:=e) k1 k2
  unfold ah at hok ⊢
  by_cases he:e≠0
  · rw [if_pos he]; exact h
  rw [if_neg he] at hok ⊢
  cases hl:cq s.L a.id with
  | none=>exact h
  | some z =>
    obtain ⟨x,first⟩:=z
    rw [hl] at hok
    dsimp only at hok ⊢
    by_cases h1:x.st≠0∨x.paid≠0
    · rw [if_pos h1]; exact h
    rw [if_neg h1] at hok ⊢
    by_cases h2:(x.fund≠a.fund∨¬(x.src=a.src∧x.num=a.num))∨a.copies > x.copies
    · rw [if_pos h2]; exact h
    rw [if_neg h2] at hok ⊢
    by_cases h3:¬lQ s.tol a.price first
    · rw [if_pos h3]; exact h
    rw [if_neg h3] at hok ⊢
    by_cases h4:(cj s.fs x.fund (aL x) (aL (a6 x a))).1≠0
    · rw [if_pos h4]; exact h
    rw [if_neg h4] at hok ⊢
    have h0:=Decidable.of_not_not h4
    have hid:=(bL hl).2
    have hb:=h.bal _ (bL hl).1
    refine h.set (x:=x) (y:=a6 x a) (show cq s.L x.id=_ by rw [show x.id=a.id from hid]; exact hl) rfl hok ?_ (fun j f hj=>move_en h0 j f hj) (fun j=>move_has _ _ _ _ _)
    unfold kC a6
    dsimp only
    omega
def iY (tol:Int):List FG→List EN→List Ord→Int×List FG×List EN
  | fs,L,[]=>(0,fs,L)
  | fs,L,ln::ls =>
    match cq L ln.id with
    | none=>(32,fs,L)
    | some (x,first) =>
      if bA tol ln (some (x,first))≠0 then (bA tol ln (some (x,first)),fs,L)
      else if (ap aS fs x.fund (ln.copies*x.price)).1≠0 then ((ap aS fs x.fund (ln.copies*x.price)).1,fs,L)
      else if (ap bK (ap aS fs x.fund (ln.copies*x.price)).2 x.fund (ln.copies*ln.price)).1≠0 then ((ap bK (ap aS fs x.fund (ln.copies*x.price)).2 x.fund (ln.copies*ln.price)).1,fs,L)
      else iY tol (ap bK (ap aS fs x.fund (ln.copies*x.price)).2 x.fund (ln.copies*ln.price)).2 (dl L ({ x with paid:=x.paid+ln.copies },first)) ls
def aY (s:SG) (ls:List Ord) (e:Int):Int×SG :=
  if e≠0 then (e,s)
  else if (iY s.tol s.fs s.L ls).1≠0 then ((iY s.tol s.fs s.L ls).1,s)
  else (0,⟨(iY s.tol s.fs s.L ls).2.1,s.tol,(iY s.tol s.fs s.L ls).2.2⟩)
def sameP (L M:List EN):Prop:=∀ id,(cq L id).map (fun e=>(e.1.fund,e.1.price))=(cq M id).map (fun e=>(e.1.fund,e.1.price))
theorem one_line {f:FSt} {c p q:Int} (hf:aR f) (hc:1≤c) (hp:0≤p) (hq:0≤q) (he:c*p≤f.en) :
    (aS f (c*p)).1=0∧((bK (aS f (c*p)).2 (c*q)).1≠0↔f.free+c*(p - q) < 0)∧((bK (aS f (c*p)).2 (c*q)).1≠0→(bK (aS f (c*p)).2 (c*q)).1=60) ∧
    ((bK (aS f (c*p)).2 (c*q)).1=0→(bK (aS f (c*p)).2 (c*q)).2.free=f.free+c*(p - q)∧(bK (aS f (c*p)).2 (c*q)).2.en=f.en - c*p):=by
  have h1:0≤c*p:=Int.mul_nonneg (by omega) hp
  have h2:0≤c*q:=Int.mul_nonneg (by omega) hq
  have e1:aS f (c*p)=(0,{ f with en:=f.en - c*p }):=by unfold aS; rw [if_neg (by omega),if_neg (by omega)]
  have e2:c*(p - q)=c*p - c*q:=Int.mul_sub c p q
  rw [e1,e2]
  refine ⟨rfl,?_,?_,?_⟩ <;> (unfold bK FSt.free; dsimp only; rw [if_neg (by omega)])
  · by_cases h3:c*q > f.al - f.sp - (f.en - c*p)
    · rw [if_pos h3]; constructor
      · intro _; omega
      · intro _ h; cases h
    · rw [if_neg h3]; constructor
      · intro h; exact absurd rfl h
      · intro h; omega
  · by_cases h3:c*q > f.al - f.sp - (f.en - c*p)
    · rw [if_pos h3]; exact fun _=>rfl
    · rw [if_neg h3]; exact fun h=>absurd rfl h
  · by_cases h3:c*q > f.al - f.sp - (f.en - c*p)
    · rw [if_pos h3]; intro h; cases h
    · rw [if_neg h3]; intro _; exact ⟨by dsimp only; omega,rfl⟩
theorem uG (tol:Int) (L0:List EN) (fs0:List FG):∀ (ls:List Ord) (L:List EN) (fr:Int→Option Int) (fs:List FG),INV ⟨fs,tol,L⟩→(∀ id,sK fs0 fr id=gb fs id)→sameP L0 L →
    (∀ ln∈ls,(1≤ln.copies∧ln.copies≤9999)∧0≤ln.price) →
    (iY tol fs L ls).1=(mI tol fs0 L fr ls).1∧((mI tol fs0 L fr ls).1=0→(iY tol fs L ls).2.1=ls.foldl (kZ L0) fs∧(iY tol fs L ls).2.2=(mI tol fs0 L fr ls).2∧INV ⟨ls.foldl (kZ L0) fs,tol,(mI tol fs0 L fr ls).2⟩)
  | [],L,fr,fs,h,_,_,_=>⟨rfl,fun _=>⟨rfl,rfl,h⟩⟩
  | ln::ls,L,fr,fs,h,hfr,hsm,hln=>by
    obtain ⟨⟨c1,c2⟩,p1⟩:=hln ln (.head _)
    unfold iY mI
    cases hl:cq L ln.id with
    | none=>exact ⟨rfl,fun h=>by cases h⟩
    | some z =>
      obtain ⟨x,first⟩:=z
      dsimp only
      by_cases hc:bA tol ln (some (x,first))≠0
      · rw [if_pos hc,if_pos hc]; exact ⟨rfl,fun h=>absurd h hc⟩
      rw [if_neg hc,if_neg hc]
      have hc0:=lY (Decidable.of_not_not hc)
      obtain ⟨hm,hid⟩:=bL hl
      obtain ⟨hN,hB⟩:=h.both _ hm
      have hN':=hN
      obtain ⟨⟨o1,o2⟩,_⟩:=hN
      obtain ⟨b1,b2,b3,b4⟩:=hB
      have b4:=b4 hc0.2
      dsimp only at b1 b2 b3 b4 o1 o2 hid
      obtain ⟨f,hf⟩:=Option.isSome_iff_exists.1 (h.has _ hm)
      dsimp only at hf
      have hfe:=h.en _ f hf
      have hge:=xU x.fund hm h.both
      unfold lh at hge
      rw [if_pos rfl] at hge
      have hcp:ln.copies*x.price≤aL x:=by
        unfold aL
        exact Int.mul_le_mul_of_nonneg_right (by omega) o1
      have hfk:aR f:=by
        obtain ⟨g,hg,_,rfl⟩:=lW hf
        exact h.ok.fs g hg
      dsimp only at hge hfe
      obtain ⟨r1,r2,r3,r4⟩:=one_line (f:=f) (c:=ln.copies) (p:=x.price) (q:=ln.price) hfk c1 o1 p1 (by omega)
      have e1:ap aS fs x.fund (ln.copies*x.price)=((aS f (ln.copies*x.price)).1,dx fs x.fund (aS f (ln.copies*x.price)).2):=by unfold ap; rw [hf]
      have hf2:fl (dx fs x.fund (aS f (ln.copies*x.price)).2) x.fund=some (aS f (ln.copies*x.price)).2:=by rw [kq,if_pos rfl,hf]; rfl
      have e2:ap bK (dx fs x.fund (aS f (ln.copies*x.price)).2) x.fund (ln.copies*ln.price)=((bK (aS f (ln.copies*x.price)).2 (ln.copies*ln.price)).1,dx (dx fs x.fund (aS f (ln.copies*x.price)).2) x.fund (bK (aS f (ln.copies*x.price)).2 (ln.copies*ln.price)).2):=by unfold ap; rw [hf2]
      have hfree:sK fs0 fr x.fund=f.free:=by rw [hfr]; unfold gb; rw [hf]
      rw [e1]
      dsimp only
      rw [if_neg (fun q=>q r1),e2,hfree]
      dsimp only
      by_cases hs:(bK (aS f (ln.copies*x.price)).2 (ln.copies*ln.price)).1≠0
      · rw [if_pos hs,if_pos (r2.1 hs)]
        exact ⟨r3 hs,fun h=>by cases h⟩
      rw [if_neg hs,if_neg (fun q=>hs (r2.2 q))]
      obtain ⟨r5,r6⟩:=r4 (Decidable.of_not_not hs)
      have hfold:kZ L0 fs ln=dx (dx fs x.fund (aS f (ln.copies*x.price)).2) x.fund (bK (aS f (ln.copies*x.price)).2 (ln.copies*ln.price)).2:=by
        have h1:=hsm ln.id
        rw [hl] at h1
        unfold kZ
        cases h2:cq L0 ln.id with
        | none=>rw [h2] at h1; cases h1
        | some y =>
          obtain ⟨y,fi⟩:=y
          rw [h2] at h1
          simp only [Option.map_some,Option.some.injEq,Prod.mk.injEq] at h1
          dsimp only
          rw [h1.1,h1.2,e1]
          dsimp only
          rw [e2]
      rw [List.foldl_cons,hfold]
      generalize hF:dx (dx fs x.fund (aS f (ln.copies*x.price)).2) x.fund (bK (aS f (ln.copies*x.price)).2 (ln.copies*ln.price)).2=F
      have hlk:∀ j,fl F j=if j=x.fund then some (bK (aS f (ln.copies*x.price)).2 (ln.copies*ln.price)).2 else fl fs j:=fun j=>by
        rw [← hF,kq]
        by_cases hj:j=x.fund
        · rw [if_pos hj,if_pos hj,hf2]; rfl
        · rw [if_neg hj,if_neg hj,kq,if_neg hj]
      have hFok:∀ g∈F,aR g.s:=by
        have:=xG (L:=L0) (ln:=ln) h.ok.fs
        rw [show (SG.mk fs tol L).fs=fs from rfl,hfold,hF] at this
        exact this
      have hid':cq L { x with paid:=x.paid+ln.copies }.id=some (x,first):=by show cq L x.id=_; rw [hid]; exact hl
      refine uG tol L0 fs0 ls _ _ _ ?_ ?_ ?_ (fun l hl=>hln l (.tail _ hl))
      · have hq:xC ({ x with paid:=x.paid+ln.copies },first):=⟨kr hN' ⟨by omega,hc0.1⟩,(h.ok.L _ hm).2⟩
        refine INV.set (s:=⟨fs,tol,L⟩) h (x:=x) hid' rfl (SGok.set (s:=⟨fs,tol,L⟩) h.ok hFok hq) ?_ (fun j g hj=>?_) (fun j=>?_)
        · unfold kC
          dsimp only
          omega
        · rw [hlk] at hj
          by_cases hjx:j=x.fund
          · rw [if_pos hjx] at hj
            injection hj with hj
            subst hj
            refine ⟨f,by rw [hjx]; exact hf,?_⟩
            rw [r6,if_pos hjx]
            unfold aL
            dsimp only
            rw [show x.prom - (x.paid+ln.copies)=(x.prom - x.paid) - ln.copies by omega,Int.sub_mul]; omega
          · rw [if_neg hjx] at hj
            exact ⟨g,hj,by rw [if_neg hjx,Int.add_zero]⟩
        · show (fl F j).isSome=(fl fs j).isSome
          rw [hlk]
          split
          · rename_i h; rw [h,hf]; rfl
          · rfl
      · intro j
        unfold sK qc gb
        rw [hlk]
        by_cases hj:j=x.fund
        · rw [if_pos hj,if_pos hj]; exact r5.symm
        · rw [if_neg hj,if_neg hj]
          exact hfr j
      · intro j
        rw [hsm j,lX]
        dsimp only
        by_cases hj:j=x.id
        · rw [if_pos hj,hj,hid,hl]; rfl
        · rw [if_neg hj]
theorem l4 {s:SG} (h:INV s) {ls:List Ord} {e:Int} (hl:∀ ln∈ls,(1≤ln.copies∧ln.copies≤9999)∧0≤ln.price):aY s ls e=aF s ls e∧INV (aF s ls e).2:=by
  unfold aY aF
  by_cases he:e≠0
  · rw [if_pos he,if_pos he]; exact ⟨rfl,h⟩
  rw [if_neg he,if_neg he]
  obtain ⟨h1,h2⟩:=uG s.tol s.L s.fs ls s.L (fun _=>none) s.fs h (fun _=>rfl) (fun _=>rfl) hl
  rw [h1]
  by_cases h3:(mI s.tol s.fs s.L (fun _=>none) ls).1≠0
  · rw [if_pos h3,if_pos h3]; exact ⟨rfl,h⟩
  rw [if_neg h3,if_neg h3]
  obtain ⟨h4,h5,h6⟩:=h2 (Decidable.of_not_not h3)
  rw [h4,h5]
  exact ⟨rfl,h6⟩
end Go.PK

namespace Go.PK
open Go Go.RowKit
def bn (s:ByteArray):Ord×Int:=if (aK s).2.2≠0 then (co,(aK s).2.2) else pI (aK s).1
def aM (s:ByteArray):List Ord×Int:=if (aK s).2.2≠0 then ([],(aK s).2.2) else iT (aK s).1
theorem rdO_wr {l:List Seg} (h:(pI l).2=0):ej (pI l).1:=by
  unfold pI at h ⊢
  split
  · rename_i h1; exact h1.1
  · rename_i h1; rw [if_neg h1] at h; cases h
theorem wd {s:ByteArray} (h:(bn s).2=0):ej (bn s).1:=by
  unfold bn at h ⊢
  by_cases h1:(aK s).2.2≠0
  · rw [if_pos h1] at h; exact absurd h h1
  · rw [if_neg h1] at h ⊢; exact rdO_wr h
theorem rdI_wr {l:List Seg}:∀ o∈(iT l).1,ej (pf o):=by
  unfold iT
  by_cases h1:dB (bh l)∧(bH (bh l)).length=l.length
  · rw [if_pos h1]
    split
    · exact h1.1.2.2
    · split
      · exact fun o ho=>by cases ho
      · exact fun o ho=>by cases ho
  · rw [if_neg h1]
    exact fun o ho=>by cases ho
theorem rdTI_wr {s:ByteArray}:∀ o∈(aM s).1,ej (pf o):=by
  unfold aM
  split
  · exact fun o ho=>by cases ho
  · exact rdI_wr
theorem kw {s:ByteArray}:∀ ln∈(aM s).1,((1≤ln.copies∧ln.copies≤9999)∧0≤ln.price)∧ln.price≤999999999∧1≤ln.id∧ln.id≤999999999:=fun ln h=>by
  obtain ⟨⟨a1,a2⟩,_,_,_,⟨e1,e2⟩,f1,f2⟩:=rdTI_wr ln h
  have a1:1≤ln.id:=a1
  have a2:ln.id≤999999999:=a2
  have e1:0≤ln.price:=e1
  have e2:ln.price≤999999999:=e2
  have f1:1≤ln.copies:=f1
  have f2:ln.copies≤9999:=f2
  exact ⟨⟨⟨f1,f2⟩,e1⟩,e2,a1,a2⟩
theorem rdI_len {l:List Seg}:(iT l).1.length≤999:=by
  unfold iT
  by_cases h1:dB (bh l)∧(bH (bh l)).length=l.length
  · rw [if_pos h1]
    split
    · exact h1.1.2.1
    · split <;> exact Nat.zero_le _
  · rw [if_neg h1]; exact Nat.zero_le _
theorem uH {s:ByteArray}:(aM s).1.length≤999:=by
  unfold aM
  split
  · exact Nat.zero_le _
  · exact rdI_len
def fFr (fr:Int→Option Int):Value→Option Value
  | .int .i64 id=>(fr id).map (Value.int .i64)
  | _=>none
theorem xW {fr:Int→Option Int} {id v:Int}:ir (fFr fr) (.int .i64 id) (.int .i64 v)=fFr (qc fr id v):=by
  funext u
  by_cases hu:u=.int .i64 id
  · subst hu
    rw [dP]
    show _=(qc fr id v id).map _
    unfold qc
    rw [if_pos rfl]; rfl
  · rw [gg hu]
    cases u with
    | int k j =>
      cases k with
      | i64 =>
        show (fr j).map _=(qc fr id v j).map _
        unfold qc
        rw [if_neg (fun e=>hu (by rw [e]))]
      | _=>rfl
    | _=>rfl
theorem fFr_none:fFr (fun _=>none)=fun _=>none:=by
  funext u
  cases u with
  | int k j=>cases k <;> rfl
  | _=>rfl
theorem frS_frS {fr:Int→Option Int} {id a b:Int}:qc (qc fr id a) id b=qc fr id b:=by
  funext j
  unfold qc
  split <;> rfl
def zw (o:Option EN):EN:=o.getD (co,0)
theorem goI_cons {tol:Int} {fs:List FG} {M:List EN} {fr:Int→Option Int} {ln:Ord} {rest:List Ord} {o:Option EN} (ho:cq M ln.id=o):mI tol fs M fr (ln::rest)=if bA tol ln o≠0 then (bA tol ln o,M) else match (generalizing:=false) o with
    | none=>(32,M)
    | some (x,first)=>if sK fs fr x.fund+ln.copies*(x.price - ln.price) < 0 then (60,M) else mI tol fs (dl M ({ x with paid:=x.paid+ln.copies },first)) (qc fr x.fund (sK fs fr x.fund+ln.copies*(x.price - ln.price))) rest:=by
  subst ho
  conv=>lhs; unfold mI
  cases cq M ln.id with
  | none=>rfl
  | some z=>rfl
theorem uI {tol:Int} {fs:List FG}:∀ {ls:List Ord} {L:List EN} {fr:Int→Option Int},(mI tol fs L fr ls).1=0→∀ ln∈ls,(cq L ln.id).isSome=true
  | [],_,_,_=>fun ln h=>by cases h
  | l::ls,L,fr,h=>by
    unfold mI at h
    cases hl:cq L l.id with
    | none=>rw [hl] at h; cases h
    | some z =>
      obtain ⟨x,first⟩:=z
      rw [hl] at h
      dsimp only at h
      by_cases hc:bA tol l (some (x,first))≠0
      · rw [if_pos hc] at h; exact absurd h hc
      rw [if_neg hc] at h
      by_cases hv:sK fs fr x.fund+l.copies*(x.price - l.price) < 0
      · rw [if_pos hv] at h; cases h
      rw [if_neg hv] at h
      intro ln hm
      rcases List.mem_cons.1 hm with rfl | hm
      · rw [hl]; rfl
      · have:=uI h ln hm
        rw [lX] at this
        dsimp only at this
        by_cases hi:ln.id=x.id
        · rw [if_pos hi,Option.isSome_map] at this; exact this
        · rw [if_neg hi] at this; exact this
theorem xX {α:Type} {l:List α} {k:Nat} (h:k < l.length):l.drop k=l[k]::l.drop (k+1):=List.drop_eq_getElem_cons h
theorem we {α β:Type} (f:β→α→β) (b:β) {l:List α} {k:Nat} (h:k < l.length):(l.take (k+1)).foldl f b=f ((l.take k).foldl f b) l[k]:=by
  rw [List.take_succ_eq_append_getElem h,List.foldl_append]; rfl
theorem free_rng {fs:List FG} (h:∀ f∈fs,aR f.s) (id:Int):0≤gb fs id∧gb fs id≤1000000000000000:=by
  unfold gb
  cases hl:fl fs id with
  | none=>exact ⟨Int.le_refl _,by decide⟩
  | some f =>
    obtain ⟨g,hg,_,rfl⟩:=lW hl
    have:=h g hg
    unfold aR at this
    unfold FSt.free
    dsimp only
    omega
theorem frG_rng {fs:List FG} (h:∀ f∈fs,aR f.s) {fr:Int→Option Int} {B:Int} (hB:0≤B) (hf:∀ id v,fr id=some v→0≤v∧v≤1000000000000000+B) (id:Int):0≤sK fs fr id∧sK fs fr id≤1000000000000000+B:=by
  unfold sK
  cases hl:fr id with
  | none=>have:=free_rng h id; exact ⟨this.1,by dsimp only; omega⟩
  | some v=>exact hf id v hl
end Go.PK

namespace Go.PK
open Go Go.RowKit Go.Maps
section
variable {P:Program} {n:Nat} {l:List (Nat×Value)} {own:List (Nat×Obj)} {ro:List av} {ty t kt e:TypeId} {m x:Operand} {b:Nat} {es:Array MapEntry} {clock:Nat}
end
end Go.PK

namespace Go.PK
open Go Go.RowKit Go.Maps
theorem Mem.front {w:World} {a b c:List (Nat×Obj)} {ro:List av} (h:Mem w (a++(b++c)) ro):Mem w (b++(a++c)) ro:=h.perm (List.perm_append_comm_assoc _ _ _)
def eN (g:FG):List Value:=[.int .i64 g.id,.int .i64 g.par,.int .i64 g.s.al,.int .i64 g.s.sp,.int .i64 g.s.en]
theorem fMM_one {g:FG} {p:Nat} {b:Value}:cC [⟨g,p,b⟩]=ir (fun _=>none) (.int .i64 g.id) (.pointer (some ⟨p,0,none⟩)):=by
  funext v
  by_cases hv:v=.int .i64 g.id
  · subst hv
    rw [dP]
    show (iz _ _).map _=_
    rw [fj,if_pos rfl]; rfl
  · rw [gg hv]
    cases v with
    | int k j =>
      cases k with
      | i64 =>
        show (iz _ _).map _=_
        rw [fj,if_neg (fun e=>hv (by rw [← e]))]; rfl
      | _=>rfl
    | _=>rfl
theorem fMM_snoc {ms:List FM} {x:FM} (h:iz ms x.g.id=none):cC (ms++[x])=ir (cC ms) (.int .i64 x.g.id) (.pointer (some ⟨x.p,0,none⟩)):=by
  funext v
  by_cases hv:v=.int .i64 x.g.id
  · subst hv
    rw [dP]
    show (iz _ _).map _=_
    unfold iz at h ⊢
    rw [List.find?_append,h]
    rw [List.find?_cons,decide_eq_true rfl]; rfl
  · rw [gg hv]
    cases v with
    | int k j =>
      cases k with
      | i64 =>
        show (iz _ _).map _=(iz _ _).map _
        unfold iz
        rw [List.find?_append]
        have:List.find? (fun y:FM=>decide (y.g.id=j)) [x]=none:=by
          rw [List.find?_cons,decide_eq_false (fun e=>hv (by rw [← e]))]; rfl
        rw [this,Option.or_none]
      | _=>rfl
    | _=>rfl
theorem kx (s:ByteArray):(0≤(bn s).1.price∧(bn s).1.price≤999999999)∧(0≤(bn s).1.copies∧(bn s).1.copies≤9999):=by
  by_cases h:(bn s).2=0
  · have:=wd h
    unfold ej at this
    omega
  · have h0:(bn s).1=co:=by
      unfold bn at h ⊢
      by_cases h1:(aK s).2.2≠0
      · rw [if_pos h1]
      · rw [if_neg h1] at h ⊢
        unfold pI at h ⊢
        split
        · rename_i h2; rw [if_pos h2] at h; exact absurd rfl h
        · rfl
    rw [h0]; decide
def wh (g:FG):List Value:=[.int .i64 g.id,.int .i64 g.par,.int .i64 g.s.al,.int .i64 g.s.sp,.int .i64 g.s.en,.slice none 0 0]
abbrev MO:=Option (Nat×Array MapEntry×Nat)
def mapO:MO→List (Nat×Obj)
  | none=>[]
  | some x=>[(x.1,.map x.2.1 x.2.2)]
def mapIs (P:Program) (kt:TypeId) (m:MO) (f:Value→Option Value):Prop:=match m with | none=>f=fun _=>none | some x=>MapC P kt x.2.1 x.2.2 f
def uJ (fs:List FG):Prop:=(fs.map (·.id)).Pairwise (· < ·)
theorem lkM_of {ms:List FM} {fs:List FG} {id:Int} {f:FSt} (h:bW ms=fs) (hl:fl fs id=some f):∃ y,iz ms id=some y∧y.g.s=f∧y∈ms:=by
  subst h
  rw [rc] at hl
  cases hm:iz ms id with
  | none=>rw [hm] at hl; cases hl
  | some y =>
    rw [hm] at hl
    injection hl with hl
    obtain ⟨a,b,h1,_⟩:=eM hm
    exact ⟨y,rfl,hl,by rw [h1]; simp⟩
end Go.PK

namespace Go.PK
open Go Go.RowKit
def po (l:List Ord):List Value:=l.flatMap Ord.cells
theorem x6 {D:Nat→Prop} {w:World} {own:List (Nat×Obj)} {ro:List av} {e:TypeId} {R:ak} {es:List Ord} {n:Nat} (hr:ag 9 R n (po es)) (hn:n=es.length) (hi:∀ x∈es,x.okA)
    (hm:Mem w own ro) (hin:∀ p∈aA e R,p∈own) (hD:∀ p∈aA e R,D p.1):ab dE D w (au R n) es:=by
  subst hn
  have h:cZ dE (fun _=>False) w R es:=⟨es.map Ord.cells,by simp,by rw [← List.flatMap_def]; exact hr,fun j h1 h2=>by rw [List.getElem_map]; exact ⟨rfl,hi _ (List.getElem_mem h2)⟩⟩
  exact h.rd hm hin (fun _ h=>h.elim) hD rfl
def bigN (l:List Seg):Prop:=∀ x∈l,∀ y∈x.els,∀ s∈y,s.size≤2000000000
theorem li:∀ {ls:List Ord} {j:Nat} {x:Seg},x∈cc j ls→∃ o∈ls,∃ k,k < j+ls.length∧x∈ei k o
  | [],_,_,h=>by cases h
  | o::t,j,x,h=>by
    rcases List.mem_append.1 (show x∈ei j o++cc (j+1) t from h) with h | h
    · exact ⟨o,.head _,j,by rw [List.length_cons]; omega,h⟩
    · obtain ⟨p,h1,k,h2,h3⟩:=li h
      exact ⟨p,.tail _ h1,k,by rw [List.length_cons]; omega,h3⟩
theorem uM {ls:List Ord} (hp:dB ls) (hn:ls.length≤10):∀ x∈bH ls,kL x:=by
  have hfew:=(xp ls).2
  have ht0:=fe (ls:=ls) hp.2.2
  have key:∀ x∈bH ls,(∀ y∈x.els,∀ s∈y,s.size≤100)∧cr x=true∧x.tag≠lM:=by
    intro x hx
    unfold bH at hx
    rw [if_pos hp] at hx
    unfold bo at hx
    rcases List.mem_append.1 hx with hx | hx
    · rcases List.mem_append.1 hx with hx | hx
      · have hh:∀ x∈dF,(∀ y∈x.els,∀ s∈y,s.size≤100)∧cr x=true∧x.tag≠lM:=by
          unfold dF
          simp only [List.forall_mem_cons,List.not_mem_nil,false_imp_iff,implies_true,and_true]
          repeat' apply And.intro
          all_goals first | decide | omega | rfl
        exact hh x hx
      · obtain ⟨o,ho,k,hk,hx⟩:=li hx
        obtain ⟨⟨a1,a2⟩,_,⟨c1,c2⟩,⟨d1,d2⟩,⟨e1,e2⟩,⟨f1,f2⟩⟩:=hp.2.2 o ho
        have a1:1≤o.id:=a1; have a2:o.id≤999999999:=a2; have c1:0≤o.src:=c1; have c2:o.src≤999999999:=c2; have d1:0≤o.num:=d1; have d2:o.num≤999999999:=d2
        have e1:0≤o.price:=e1; have e2:o.price≤999999999:=e2; have f1:1≤o.copies:=f1; have f2:o.copies≤9999:=f2
        have k1:=dA (show 0≤o.id by omega) a2
        have k3:=dA (show 0≤o.copies by omega) (show o.copies≤999999999 by omega)
        have k4:=dA e1 e2
        have k5:=qN c1 c2 d1 d2
        have k6:(ai ((k+1:Nat):Int)).size≤9:=dA (by omega) (by omega)
        have hh:∀ x∈ei k o,(∀ y∈x.els,∀ s∈y,s.size≤100)∧cr x=true∧x.tag≠lM:=by
          unfold ei
          simp only [List.forall_mem_cons,List.not_mem_nil,false_imp_iff,implies_true,and_true]
          repeat' apply And.intro
          all_goals first | decide | omega | rfl
        exact hh x hx
    · have k7:=lN (n:=ba ls) ht0.1 15
      have k8:(ai ((4*ls.length+5:Nat):Int)).size≤9:=dA (by omega) (by omega)
      have k9:(ai (ba ls)).size≤100:=by
        have h10:(10:Int) ^ (15+1)=10000000000000000:=by decide
        have:ba ls < 10 ^ (15+1):=by rw [h10]; have:=ht0.2; omega
        have:=k7.2 this
        omega
      have hh:∀ x∈fa ls.length (ai (ba ls)),(∀ y∈x.els,∀ s∈y,s.size≤100)∧cr x=true∧x.tag≠lM:=by
        unfold fa
        simp only [List.forall_mem_cons,List.not_mem_nil,false_imp_iff,implies_true,and_true]
        repeat' apply And.intro
        all_goals first | decide | omega | rfl
      exact hh x hx
  exact fun x hx=>⟨(key x hx).2.1,(key x hx).2.2,hfew x hx,(key x hx).1⟩
def txI (ls:List Ord):ByteArray:=⟨(fX (bH ls)).toArray⟩
theorem inv_text {ls:List Ord} (hn:ls.length≤10) (h:∀ o∈ls,ej (pf o)):u6 (bH ls)=(txI ls,0)∧(txI ls).size≤200000000∧bigN (aK (txI ls)).1∧aM (txI ls)=if ls=[] then ([],11) else (ls.map gU,0):=by
  have hf:∀ x∈bH ls,kL x:=by
    by_cases hp:dB ls
    · exact uM hp hn
    · unfold bH; rw [if_neg hp]; exact fun x hx=>by cases hx
  have hl:(bH ls).length≤60:=by
    rw [fP]; split <;> omega
  obtain ⟨h1,h2,h3⟩:=iU hl hf
  refine ⟨h1,h2,?_,?_⟩
  · show bigN (aK ⟨_⟩).1
    rw [h3]; exact ul _
  · have h3:aK (txI ls)=(bH ls,0,0):=h3
    unfold aM
    rw [h3,if_neg (fun q=>q rfl),xj]
    cases ls with
    | nil=>rw [if_neg m8,if_pos rfl]
    | cons o t=>rw [if_pos ⟨by rw [List.length_cons]; omega,by omega,h⟩,if_neg (by simp)]
end Go.PK

namespace Go.PK
open Go Go.RowKit
def pJ (e:EN):Prop:=(1≤e.1.id∧e.1.id≤6)∧(1≤e.1.fund∧e.1.fund≤4)∧e.1.src=1∧(0≤e.1.num∧e.1.num≤2)∧(1≤e.1.copies∧e.1.copies≤5)∧(0≤e.2∧e.2≤1200)∧(0≤e.1.price∧e.1.price≤1201200)∧(e.1.st=-1∨0 < e.1.prom)
def iZ (x:FG):Int×Int×Int:=(x.id,x.par,x.s.al)
def uN (m:Int):List (Int×Int×Int):=[(1,0,20000),(2,1,9000),(3,1,m)]
structure DOK (m:Int) (s:SG):Prop where
  inv:INV s
  sm:∀ e∈s.L,pJ e
  fs:s.fs.map iZ=uN m
theorem uO:∀ {fs:List FG} {id:Int} {g:FSt},(∀ f,fl fs id=some f→g.al=f.al)→(dx fs id g).map iZ=fs.map iZ
  | [],_,_,_=>rfl
  | x::l,id,g,h=>by
    unfold dx
    by_cases hx:x.id=id
    · rw [if_pos hx]
      have:=h x.s (by rw [d3,if_pos hx])
      rw [List.map_cons,List.map_cons]
      unfold iZ
      dsimp only
      rw [this]
    · rw [if_neg hx,List.map_cons,List.map_cons,uO fun f hf=>h f (by rw [d3,if_neg hx]; exact hf)]
theorem i7 {R:FSt→Int→Int×FSt} (hR:∀ f n,(R f n).2.al=f.al) (fs:List FG) (id n:Int):(ap R fs id n).2.map iZ=fs.map iZ:=by
  unfold ap
  cases hl:fl fs id with
  | none=>rfl
  | some f=>exact uO fun g hg=>by rw [hl] at hg; cases hg; exact hR f n
theorem enc_al (f:FSt) (n:Int):(bJ f n).2.al=f.al:=by unfold bJ; split <;> (try split) <;> rfl
theorem wl (f:FSt) (n:Int):(aS f n).2.al=f.al:=by unfold aS; split <;> (try split) <;> rfl
theorem spd_al (f:FSt) (n:Int):(bK f n).2.al=f.al:=by unfold bK; split <;> (try split) <;> rfl
theorem move_key (fs:List FG) (id b n:Int):(cj fs id b n).2.map iZ=fs.map iZ:=by
  unfold cj
  split
  · exact i7 enc_al _ _ _
  · exact i7 wl _ _ _
theorem pay1_key (L:List EN) (fs:List FG) (ln:Ord):(kZ L fs ln).map iZ=fs.map iZ:=by
  unfold kZ
  split
  · rfl
  · rw [i7 spd_al,i7 wl]
theorem uP (L:List EN):∀ (ls:List Ord) (fs:List FG),(ls.foldl (kZ L) fs).map iZ=fs.map iZ
  | [],_=>rfl
  | ln::ls,fs=>by rw [List.foldl_cons,uP L ls,pay1_key]
theorem DOK.len {m:Int} {s:SG} (h:DOK m s):s.L.length≤6:=by
  have key:∀ (k:Nat) (L:List EN) (a:Int),lc L→(∀ e∈L,a < e.1.id∧e.1.id≤6)→a+k=6→L.length≤k:=by
    intro k
    induction k with
    | zero =>
      intro L a _ hb ha
      cases L with
      | nil=>exact Nat.le_refl _
      | cons e l=>have:=hb e (.head _); omega
    | succ k ih =>
      intro L a hs hb ha
      cases L with
      | nil=>exact Nat.zero_le _
      | cons e l =>
        obtain ⟨h1,h2⟩:=List.pairwise_cons.1 hs
        have h3:=hb e (.head _)
        have h4:=ih l (a+1) h2 (fun x hx=>⟨by have:=h1 x hx; omega,(hb x (.tail _ hx)).2⟩) (by omega)
        rw [List.length_cons]; omega
  exact key 6 s.L 0 h.inv.ok.srt (fun e he=>⟨by have:=(h.sm e he).1; omega,(h.sm e he).1.2⟩) (by omega)
theorem sT {L:List EN} {y:EN} (h:∀ e∈L,pJ e) (hy:pJ y):∀ e∈dl L y,pJ e:=fun e he=>by
  rcases gX he with he | rfl
  · exact h e he
  · exact hy
theorem sm_ins {L:List EN} {y:EN} (h:∀ e∈L,pJ e) (hy:pJ y):∀ e∈fm L y,pJ e:=fun e he=>by
  rcases iW.1 he with he | rfl
  · exact h e he
  · exact hy
def rh (x:Ord):Prop:=(1≤x.id∧x.id≤6)∧(1≤x.fund∧x.fund≤4)∧x.src=1∧(0≤x.num∧x.num≤2)∧(0≤x.copies∧x.copies≤5)∧(0≤x.price∧x.price≤1200)
theorem DOK.place {m:Int} {s:SG} (h:DOK m s) {x:Ord} (hx:rh x):DOK m (aD s x).2:=by
  refine ⟨h.inv.place x,?_,?_⟩ <;> unfold aD
  · by_cases h1:bV x=false
    · rw [if_pos h1]; exact h.sm
    rw [if_neg h1]
    by_cases h2:(cq s.L x.id).isSome=true
    · rw [if_pos h2]; exact h.sm
    rw [if_neg h2]
    split
    · exact h.sm
    · have hw:=(bB x).1 (by simpa using h1)
      refine sm_ins h.sm ?_
      unfold ej at hw
      unfold rh at hx
      unfold pJ bm
      dsimp only
      omega
  · by_cases h1:bV x=false
    · rw [if_pos h1]; exact h.fs
    rw [if_neg h1]
    by_cases h2:(cq s.L x.id).isSome=true
    · rw [if_pos h2]; exact h.fs
    rw [if_neg h2]
    split
    · exact h.fs
    · show (ap bJ s.fs x.fund (x.copies*x.price)).2.map iZ=_
      rw [i7 enc_al]; exact h.fs
theorem near_le {tol p q:Int} (h:lQ tol p q) (ht:0≤tol∧tol≤1000000) (hq:0≤q∧q≤1200):p≤1201200:=by
  unfold lQ at h
  have:tol*q≤1000000*1200:=Int.mul_le_mul ht.2 hq.2 hq.1 (by decide)
  omega
theorem DOK.answer {m:Int} {s:SG} (h:DOK m s) {a:Ord} {e:Int} (k1:0≤a.price∧a.price≤999999999) (k2:0≤a.copies∧a.copies≤9999) (k3:e=0→1≤a.copies):DOK m (ah s a e).2:=by
  refine ⟨h.inv.answer k1 k2,?_,?_⟩ <;> unfold ah
  · by_cases he:e≠0
    · rw [if_pos he]; exact h.sm
    rw [if_neg he]
    cases hl:cq s.L a.id with
    | none=>exact h.sm
    | some z =>
      obtain ⟨x,first⟩:=z
      dsimp only
      split
      · exact h.sm
      · split
        · exact h.sm
        · split
          · exact h.sm
          · rename_i hn
            split
            · exact h.sm
            · have hx:=h.sm _ (bL hl).1
              refine sT h.sm ?_
              have k3:=k3 (Decidable.of_not_not he)
              unfold pJ at hx ⊢
              unfold a6
              dsimp only at hx ⊢
              have:=near_le (Decidable.of_not_not hn) h.inv.ok.tol ⟨by omega,by omega⟩
              omega
  · by_cases he:e≠0
    · rw [if_pos he]; exact h.fs
    rw [if_neg he]
    cases hl:cq s.L a.id with
    | none=>exact h.fs
    | some z =>
      obtain ⟨x,first⟩:=z
      dsimp only
      split
      · exact h.fs
      · split
        · exact h.fs
        · split
          · exact h.fs
          · split
            · exact h.fs
            · show (cj s.fs x.fund (aL x) (aL (a6 x a))).2.map iZ=_
              rw [move_key]; exact h.fs
theorem DOK.receive {m:Int} {s:SG} (h:DOK m s) (id n:Int):DOK m (ar s id n).2:=by
  refine ⟨h.inv.receive id n,?_,?_⟩ <;> unfold ar
  · cases hl:cq s.L id with
    | none=>exact h.sm
    | some z =>
      obtain ⟨x,first⟩:=z
      dsimp only
      split
      · exact h.sm
      · rename_i hc
        split
        · exact h.sm
        · have hx:=h.sm (x,first) (bL hl).1
          refine sT h.sm ?_
          unfold pJ at hx ⊢
          dsimp only at hx ⊢
          omega
  · cases hl:cq s.L id with
    | none=>exact h.fs
    | some z =>
      obtain ⟨x,first⟩:=z
      dsimp only
      split
      · exact h.fs
      · split <;> exact h.fs
theorem DOK.cancel {m:Int} {s:SG} (h:DOK m s) (id:Int):DOK m (aE s id).2:=by
  refine ⟨h.inv.cancel id,?_,?_⟩ <;> unfold aE
  · cases hl:cq s.L id with
    | none=>exact h.sm
    | some z =>
      obtain ⟨x,first⟩:=z
      dsimp only
      split
      · exact h.sm
      · split
        · exact h.sm
        · have hx:=h.sm (x,first) (bL hl).1
          refine sT h.sm ?_
          unfold pJ at hx ⊢
          dsimp only at hx ⊢
          omega
  · cases hl:cq s.L id with
    | none=>exact h.fs
    | some z =>
      obtain ⟨x,first⟩:=z
      dsimp only
      split
      · exact h.fs
      · split
        · exact h.fs
        · show (ap aS s.fs x.fund (aL x)).2.map iZ=_
          rw [i7 wl]; exact h.fs
theorem goI_sm (tol:Int) (fs:List FG):∀ (ls:List Ord) (L:List EN) (fr:Int→Option Int),(∀ e∈L,pJ e)→∀ e∈(mI tol fs L fr ls).2,pJ e
  | [],L,fr,h=>h
  | ln::ls,L,fr,h=>by
    unfold mI
    split
    · exact h
    · rename_i x first hx
      split
      · exact h
      · split
        · exact h
        · exact goI_sm tol fs ls _ _ (sT h (show pJ (_,first) from h (x,first) (bL hx).1))
theorem DOK.invoice {m:Int} {s:SG} (h:DOK m s) {ls:List Ord} {e:Int} (hl:∀ ln∈ls,(1≤ln.copies∧ln.copies≤9999)∧0≤ln.price):DOK m (aF s ls e).2:=by
  refine ⟨(l4 h.inv hl).2,?_,?_⟩ <;> unfold aF
  · split
    · exact h.sm
    · split
      · exact h.sm
      · exact goI_sm _ _ _ _ _ h.sm
  · split
    · exact h.fs
    · split
      · exact h.fs
      · show (ls.foldl (kZ s.L) s.fs).map iZ=_
        rw [uP]; exact h.fs
theorem ri {s:SG} {x:Ord} (h:(aD s x).1≠0):(aD s x).2=s:=by
  unfold aD at h ⊢
  by_cases h1:bV x=false
  · rw [if_pos h1]
  rw [if_neg h1] at h ⊢
  by_cases h2:(cq s.L x.id).isSome=true
  · rw [if_pos h2]
  rw [if_neg h2] at h ⊢
  by_cases h3:(ap bJ s.fs x.fund (x.copies*x.price)).1≠0
  · rw [if_pos h3]
  · rw [if_neg h3] at h; exact absurd rfl h
theorem pq {s:SG} {a:Ord} {e:Int} (h:(ah s a e).1≠0):(ah s a e).2=s:=by
  unfold ah at h ⊢
  by_cases he:e≠0
  · rw [if_pos he]
  rw [if_neg he] at h ⊢
  cases hl:cq s.L a.id with
  | none=>rfl
  | some z =>
    obtain ⟨x,first⟩:=z
    rw [hl] at h
    dsimp only at h ⊢
    split
    · rfl
    · rename_i h1
      rw [if_neg h1] at h
      split
      · rfl
      · rename_i h2
        rw [if_neg h2] at h
        split
        · rfl
        · rename_i h3
          rw [if_neg h3] at h
          split
          · rfl
          · rename_i h4
            rw [if_neg h4] at h; exact absurd rfl h
theorem nf {s:SG} {id n:Int} (h:(ar s id n).1≠0):(ar s id n).2=s:=by
  unfold ar at h ⊢
  cases hl:cq s.L id with
  | none=>rfl
  | some z =>
    obtain ⟨x,first⟩:=z
    rw [hl] at h
    dsimp only at h ⊢
    split
    · rfl
    · rename_i h1
      rw [if_neg h1] at h
      split
      · rfl
      · rename_i h2
        rw [if_neg h2] at h; exact absurd rfl h
theorem wm {s:SG} {id:Int} (h:(aE s id).1≠0):(aE s id).2=s:=by
  unfold aE at h ⊢
  cases hl:cq s.L id with
  | none=>rfl
  | some z =>
    obtain ⟨x,first⟩:=z
    rw [hl] at h
    dsimp only at h ⊢
    split
    · rfl
    · rename_i h1
      rw [if_neg h1] at h
      split
      · rfl
      · rename_i h2
        rw [if_neg h2] at h; exact absurd rfl h
theorem ng {s:SG} {ls:List Ord} {e:Int} (h:(aF s ls e).1≠0):(aF s ls e).2=s:=by
  unfold aF at h ⊢
  by_cases he:e≠0
  · rw [if_pos he]
  rw [if_neg he] at h ⊢
  split
  · rfl
  · rename_i h1
    rw [if_neg h1] at h; exact absurd rfl h
theorem fs3 {m:Int} {fs:List FG} (h:fs.map iZ=uN m):∃ a b c:FSt,fs=[⟨1,0,a⟩,⟨2,1,b⟩,⟨3,1,c⟩]∧a.al=20000∧b.al=9000∧c.al=m:=by
  have hl:=congrArg List.length h
  rw [List.length_map] at hl
  match fs,hl,h with
  | [⟨i1,p1,a⟩,⟨i2,p2,b⟩,⟨i3,p3,c⟩],_,h =>
    simp only [uN,iZ,List.map_cons,List.map_nil,List.cons.injEq,Prod.mk.injEq,and_true] at h
    obtain ⟨⟨rfl,rfl,h1⟩,⟨rfl,rfl,h2⟩,⟨rfl,rfl,h3⟩⟩:=h
    exact ⟨a,b,c,rfl,h1,h2,h3⟩
theorem DOK.new {m tol:Int} (hm:0≤m∧m < 5000) (ht:0≤tol∧tol≤1000000):DOK m ⟨[⟨1,0,⟨20000,0,0⟩⟩,⟨2,1,⟨9000,0,0⟩⟩,⟨3,1,⟨m,0,0⟩⟩],tol,[]⟩:=by
  refine ⟨⟨⟨fun f hf=>?_,ht,fun e he=>(by cases he),List.Pairwise.nil⟩,fun e he=>(by cases he),fun id f hf=>?_,fun e he=>(by cases he)⟩,fun e he=>(by cases he),rfl⟩
  · unfold aR
    rcases List.mem_cons.1 hf with rfl | hf
    · decide
    · rcases List.mem_cons.1 hf with rfl | hf
      · decide
      · rw [List.mem_singleton.1 hf]; dsimp only; omega
  · show f.en=0
    obtain ⟨x,hx,_,rfl⟩:=lW hf
    rcases List.mem_cons.1 hx with rfl | hx
    · rfl
    · rcases List.mem_cons.1 hx with rfl | hx
      · rfl
      · rw [List.mem_singleton.1 hx]
end Go.PK

namespace Go.PK
open Go Go.RowKit
structure Rec {α:Type} (f:α→List Value) (v:Nat):Prop where
  len:∀ x,(f x).length=v
  one:∀ x,∀ u∈f x,u.oneCell'=true
def ax {α:Type} (f:α→List Value) (l:List α):List Value:=l.flatMap f
section
variable {α:Type} {f:α→List Value} {v:Nat}
theorem ky (a b:List α):ax f (a++b)=ax f a++ax f b:=by unfold ax; rw [List.flatMap_append]
theorem rec_nil:ax f []=[]:=rfl
theorem nD (x:α):ax f [x]=f x:=by unfold ax; rw [List.flatMap_cons,List.flatMap_nil,List.append_nil]
theorem io (h:Rec f v):∀ (l:List α),(ax f l).length=l.length*v
  | []=>by rw [rec_nil]; simp
  | x::xs=>by show (f x++ax f xs).length=_; rw [List.length_append,io h xs,h.len,List.length_cons,Nat.succ_mul]; omega
theorem nE (h:Rec f v) (l:List α):(ax f l).all (fun u=>u.oneCell')=true:=by
  rw [List.all_eq_true]; intro u hu
  obtain ⟨x,_,hx⟩:=List.mem_flatMap.1 hu
  exact h.one x u hx
theorem uQ (h:Rec f v):∀ (l:List α) (i:Nat),(ax f l).take (i*v)=ax f (l.take i)
  | _,0=>by rw [Nat.zero_mul,List.take_zero,List.take_zero]; rfl
  | [],i+1=>by simp [ax]
  | x::xs,i+1=>by
    show (f x++ax f xs).take _=f x++ax f (xs.take i)
    rw [← uQ h xs i,Nat.succ_mul,Nat.add_comm,List.take_append,h.len,List.take_of_length_le (by rw [h.len]; omega),show v+i*v - v=i*v by omega]
theorem l5 (h:Rec f v):∀ (l:List α) (i:Nat),(ax f l).drop (i*v)=ax f (l.drop i)
  | _,0=>by rw [Nat.zero_mul,List.drop_zero,List.drop_zero]
  | [],i+1=>by simp [ax]
  | x::xs,i+1=>by
    show (f x++ax f xs).drop _=ax f (xs.drop i)
    rw [← l5 h xs i,Nat.succ_mul,Nat.add_comm,List.drop_append,h.len,List.drop_of_length_le (by rw [h.len]; omega),show v+i*v - v=i*v by omega,List.nil_append]
theorem rj {l:List α} {k:Nat} (hk:k < l.length):ax f l=ax f (l.take k)++(f l[k]++ax f (l.drop (k+1))):=by
  have h:l=l.take k++l[k]::l.drop (k+1):=by rw [← List.drop_eq_getElem_cons hk,List.take_append_drop]
  conv=>lhs; rw [h]
  rw [ky]; rfl
theorem rec_set {l:List α} {k:Nat} (hk:k < l.length) (o:α):ax f (l.set k o)=ax f (l.take k)++(f o++ax f (l.drop (k+1))):=by
  have hk':k < (l.set k o).length:=by rw [List.length_set]; exact hk
  rw [rj hk',List.getElem_set_self,List.take_set_of_le (Nat.le_refl k),List.drop_set_of_lt (Nat.lt_succ_self k)]
theorem x7 (h:Rec f v) {l:List α} {k:Nat} (hk:k < l.length) {j:Nat} {u:Value} (hj:(f l[k])[j]?=some u):(ax f l)[k*v+j]?=some u:=by
  have e:(ax f l)[k*v+j]?=((ax f l).drop (k*v))[j]?:=by rw [List.getElem?_drop]
  rw [e,l5 h,List.drop_eq_getElem_cons hk]
  show (f l[k]++ax f (l.drop (k+1)))[j]?=_
  have hlt:=(List.getElem?_eq_some_iff.1 hj).1
  rw [List.getElem?_append_left hlt,hj]
theorem mul_lt {k n v j:Nat} (hk:k < n) (hj:j < v):k*v+j < n*v:=by
  have:=Nat.mul_le_mul_right v (show k+1≤n from hk)
  rw [Nat.succ_mul] at this
  omega
theorem cg (h:Rec f v) {b c n:Nat} {cs:List Value} {l:List α} (hr:ag v (some (b,cs,c)) n (ax f l)) {k:Nat} (hk:k < l.length) {j:Nat} {u:Value} (hj:(f l[k])[j]?=some u):cs[0+k*v+j]?=some u:=by
  obtain ⟨h1,h2,h3,h4,h5⟩:=hr
  dsimp only at h2 h3 h4 h5
  have hlt:=(List.getElem?_eq_some_iff.1 hj).1
  rw [h.len] at hlt
  rw [Nat.zero_add,← x7 h hk hj,← h5,List.getElem?_take,if_pos]
  have:=mul_lt hk hlt
  rw [io h] at h1
  omega
theorem rec_n (h:Rec f v) (hv:0 < v) {n:Nat} {R:ak} {l:List α} (hr:ag v R n (ax f l)):n=l.length:=by
  have h1:=hr.1
  rw [io h] at h1
  exact (Nat.eq_of_mul_eq_mul_right hv h1).symm
theorem bN (h:Rec f v) (hv:0 < v) {n:Nat} {R:ak} {l:List α} (hr:ag v R n (ax f l)) {k:Nat} (hk:k < l.length):∃ b cs c,R=some (b,cs,c):=by
  have hn:=rec_n h hv hr
  cases R with
  | none=>have:=hr.2; simp only at this; omega
  | some x=>exact ⟨x.1,x.2.1,x.2.2,rfl⟩
theorem nF (h:Rec f v) {b c n:Nat} {cs:List Value} {l:List α} (hr:ag v (some (b,cs,c)) n (ax f l)) {k:Nat} (hk:k < l.length) (o:α) {j m:Nat} {vs:List Value} (hv:vs.length=m) (hj:j+m≤v)
    (he:f o=(f l[k]).take j++vs++(f l[k]).drop (j+m)):ag v (some (b,cs.take (k*v+j)++vs++cs.drop (k*v+j+m),c)) n (ax f (l.set k o)):=by
  obtain ⟨h1,h2,h3,h4,h5⟩:=hr
  have hn:l.length*v=n*v:=by rw [← h1,io h]
  have hP:(ax f (l.take k)).length=k*v:=by rw [io h,List.length_take,Nat.min_eq_left (Nat.le_of_lt hk)]
  have hX:(f l[k]).length=v:=h.len _
  have hcs:cs=ax f (l.take k)++(f l[k]++(ax f (l.drop (k+1))++cs.drop (n*v))):=by
    conv=>lhs; rw [← List.take_append_drop (n*v) cs]
    rw [show cs.take (n*v)=ax f l from h5,rj hk,List.append_assoc,List.append_assoc]
  have e1:cs.take (k*v+j)=ax f (l.take k)++(f l[k]).take j:=by
    rw [hcs,List.take_append,hP,List.take_of_length_le (by omega),show k*v+j - k*v=j by omega,List.take_append_of_le_length (by omega)]
  have e2:cs.drop (k*v+j+m)=(f l[k]).drop (j+m)++(ax f (l.drop (k+1))++cs.drop (n*v)):=by
    conv=>lhs; rw [hcs]
    rw [List.drop_append,hP,List.drop_of_length_le (by omega),show k*v+j+m - k*v=j+m by omega,List.nil_append,List.drop_append_of_le_length (by omega)]
  have e3:cs.take (k*v+j)++vs++cs.drop (k*v+j+m)=ax f (l.set k o)++cs.drop (n*v):=by
    rw [e1,e2,rec_set hk,he]; simp only [List.append_assoc]
  have hlen:(ax f (l.set k o)).length=n*v:=by rw [io h,List.length_set,hn]
  have h6:n*v≤c*v:=Nat.mul_le_mul_right v h2
  refine ⟨hlen,h2,h3,?_,?_⟩
  · rw [e3,List.length_append,hlen,List.length_drop,h4]
    show n*v+(c*v - n*v)=c*v
    omega
  · rw [e3,List.take_append_of_le_length (by omega),List.take_of_length_le (by omega)]
theorem nG {R:ak} {n:Nat} {xs:List Value} (h:ag v R n xs):n≤tA R:=by
  cases R with
  | none=>have:=h.2; simp only at this; omega
  | some r=>exact h.2.1
theorem cV {R:ak} {n:Nat} {xs:List Value} (h:ag v R n xs):n≤maxLen:=by
  cases R with
  | none=>have:=h.2; simp only at this; omega
  | some r=>exact Nat.le_trans h.2.1 h.2.2.1
theorem uR (h:Rec f v) {e:TypeId} {R:ak} {n:Nat} {l:List α} {own:List (Nat×Obj)} {ro:List av} {w:World} (hR:ag v R n (ax f l)) (hm:Mem w own ro) (hin:∀ p∈aA e R,p∈own) {i j:Nat} {a:Addr} (ha:jN R=some a) {u:Value} (hu:(ax f (l.drop i))[j]?=some u) :
    w.cell? ((a.add (i*v)).add j)=some u:=by
  obtain _ | ⟨b,cs,c⟩:=R
  · cases ha
  · cases ha
    obtain ⟨h1,h2,h3,h4,h5⟩:=hR
    dsimp only at h2 h3 h4 h5
    rw [jh,jh,Nat.zero_add]
    rw [hm.cell_own (hin (b,.cells cs.toArray e (0,0)) (.head _)) (i*v+j),List.getElem?_toArray]
    have hj:=(List.getElem?_eq_some_iff.1 hu).1
    rw [← l5 h,List.length_drop,h1] at hj
    rw [← l5 h,List.getElem?_drop,← h5,List.getElem?_take,if_pos (by omega)] at hu
    exact hu
theorem lj (h:Rec f v) {e:TypeId} {R:ak} {n:Nat} {l:List α} {own:List (Nat×Obj)} {ro:List av} {w:World} (hR:ag v R n (ax f l)) (hm:Mem w own ro) (hin:∀ p∈aA e R,p∈own) {j:Nat} {a:Addr} (ha:jN R=some a) {u:Value} (hu:(ax f l)[j]?=some u) :
    w.cell? (a.add j)=some u:=by
  have:=uR (i:=0) h hR hm hin ha (j:=j) (by rw [List.drop_zero]; exact hu)
  obtain ⟨b,o,sp⟩:=a
  simpa [Addr.add] using this
theorem rec_head (h:Rec f v) {e:TypeId} {R:ak} {n:Nat} {l:List α} {own:List (Nat×Obj)} {ro:List av} {w:World} (hR:ag v R n (ax f l)) (hm:Mem w own ro) (hin:∀ p∈aA e R,p∈own) {m j:Nat} {a:Addr} (ha:jN R=some a) {u:Value} (hu:(ax f (l.take m))[j]?=some u) :
    w.cell? (a.add j)=some u:=by
  rw [← uQ h,List.getElem?_take] at hu
  split at hu
  · exact lj h hR hm hin ha hu
  · cases hu
theorem rec_tail (h:Rec f v) (hv:0 < v) {e:TypeId} {R:ak} {n:Nat} {l:List α} {own:List (Nat×Obj)} {ro:List av} {w:World} (hR:ag v R n (ax f l)) (hm:Mem w own ro) (hin:∀ p∈aA e R,p∈own) {i j:Nat} {a:Addr} (hi:i≤l.length) (ha:(if tA R=i then jN R else (jN R).map (fun a=>a.add (i*v)))=some a) {u:Value} (hu:(ax f (l.drop i))[j]?=some u) :
    w.cell? (a.add j)=some u:=by
  have hj:=(List.getElem?_eq_some_iff.1 hu).1
  rw [io h,List.length_drop] at hj
  have hc:=nG hR
  have hn:=rec_n h hv hR
  rw [if_neg (fun e=>by
    rw [e] at hc; have:l.length - i=0:=by omega
    rw [this,Nat.zero_mul] at hj; omega),Option.map_eq_some_iff] at ha
  obtain ⟨a0,h1,rfl⟩:=ha
  exact uR h hR hm hin h1 hu
theorem l6 (h:Rec f v) (hv:0 < v) {R:ak} {n:Nat} {l:List α} (hR:ag v R n (ax f l)) (ha:jN R=none):l.length=0:=by
  have hn:=rec_n h hv hR
  obtain _ | ⟨b,cs,c⟩:=R
  · have:=hR.2; simp only at this; omega
  · cases ha
end
def rowIn (w:World) (e:TypeId) (R:ak):Prop:=∀ p∈aA e R,w.heap[p.1]?=some p.2
theorem Mem.rowIn {w:World} {own:List (Nat×Obj)} {ro:List av} (hm:Mem w own ro) {e:TypeId} {R:ak} (h:∀ p∈aA e R,p∈own):rowIn w e R:=fun p hp=>hm.own_at p (h p hp)
theorem rowIn.cell {w:World} {e:TypeId} {b c:Nat} {cs:List Value} (h:rowIn w e (some (b,cs,c))) {i:Nat} {u:Value} (hu:cs[i]?=some u):w.cell? ⟨b,i,none⟩=some u:=by
  rw [cell_of_row w b i cs.toArray e (0,0) (h (b,_) (.head _)),List.getElem?_toArray]; exact hu
theorem Aj {α:Type} {g:α→List Int} {l:List α}:ax (fun x=>(g x).map (Value.int .i64)) l=(l.flatMap g).map (Value.int .i64):=by
  unfold ax; rw [List.map_flatMap]
end Go.PK

namespace Go.PK
open Go Go.RowKit
def du (e:EN):List Value:=[.int .i64 e.1.id,.int .i64 e.1.fund,.int .i64 e.1.src,.int .i64 e.1.num,.int .i64 e.1.copies,.int .i64 e.1.price,.int .i64 e.1.prom,.int .i64 e.1.paid,.int .i64 e.1.st,.int .i64 e.2]
def cD (x:FG):List Value:=[.int .i64 x.id,.int .i64 x.par,.int .i64 x.s.al,.int .i64 x.s.sp,.int .i64 x.s.en]
theorem bf:Rec du 10:=⟨fun _=>rfl,fun x u hu=>by
  simp only [du,List.mem_cons,List.not_mem_nil,or_false] at hu
  rcases hu with rfl | rfl | rfl | rfl | rfl | rfl | rfl | rfl | rfl | rfl <;> rfl⟩
theorem bF:Rec cD 5:=⟨fun _=>rfl,fun x u hu=>by
  simp only [cD,List.mem_cons,List.not_mem_nil,or_false] at hu
  rcases hu with rfl | rfl | rfl | rfl | rfl <;> rfl⟩
theorem l7 (L:List EN):(ax du L).length=L.length*10:=io bf L
theorem zo (L:List FG):ax cD L=(er L).map (Value.int .i64):=Aj (g:=xP)
theorem x8:∀ {L:List EN} {id:Int} {e:EN},cq L id=some e→∃ k,∃ hk:k < L.length,L[k]=e∧L[k].1.id=id∧(∀ j (hj:j < L.length),j < k→L[j].1.id≠id)∧∀ y:EN,y.1.id=id→dl L y=L.set k y
  | [],_,_,h=>by cases h
  | x::l,id,e,h=>by
    rw [dM] at h
    by_cases hx:x.1.id=id
    · rw [if_pos hx] at h
      injection h with h
      refine ⟨0,Nat.succ_pos _,h,hx,fun j hj h0=>absurd h0 (Nat.not_lt_zero _),fun y hy=>?_⟩
      unfold dl
      rw [if_pos (hx.trans hy.symm)]; rfl
    · rw [if_neg hx] at h
      obtain ⟨k,hk,h1,h2,h3,h4⟩:=x8 h
      refine ⟨k+1,Nat.succ_lt_succ hk,h1,h2,fun j hj hjk=>?_,fun y hy=>?_⟩
      · cases j with
        | zero=>exact hx
        | succ j=>exact h3 j (Nat.lt_of_succ_lt_succ hj) (Nat.lt_of_succ_lt_succ hjk)
      · show (if x.1.id=y.1.id then y::l else x::dl l y)=_
        rw [if_neg (fun e=>hx (e.trans hy)),h4 y hy]; rfl
theorem x9:∀ {L:List FG} {id:Int} {f:FSt},fl L id=some f→∃ k,∃ hk:k < L.length,L[k].s=f∧L[k].id=id∧(∀ j (hj:j < L.length),j < k→L[j].id≠id)∧∀ g:FSt,dx L id g=L.set k { L[k] with s:=g }
  | [],_,_,h=>by cases h
  | x::l,id,f,h=>by
    rw [d3] at h
    by_cases hx:x.id=id
    · rw [if_pos hx] at h
      injection h with h
      refine ⟨0,Nat.succ_pos _,h,hx,fun j hj h0=>absurd h0 (Nat.not_lt_zero _),fun g=>?_⟩
      unfold dx
      rw [if_pos hx]; rfl
    · rw [if_neg hx] at h
      obtain ⟨k,hk,h1,h2,h3,h4⟩:=x9 h
      refine ⟨k+1,Nat.succ_lt_succ hk,h1,h2,fun j hj hjk=>?_,fun g=>?_⟩
      · cases j with
        | zero=>exact hx
        | succ j=>exact h3 j (Nat.lt_of_succ_lt_succ hj) (Nat.lt_of_succ_lt_succ hjk)
      · show (if x.id=id then _ else x::dx l id g)=_
        rw [if_neg hx,h4 g]; rfl
theorem lkL_no {L:List EN} {id:Int} (h:cq L id=none):∀ j (hj:j < L.length),L[j].1.id≠id:=fun j hj=>pe h _ (List.getElem_mem hj)
theorem lkF_no {L:List FG} {id:Int} (h:fl L id=none):∀ j (hj:j < L.length),L[j].id≠id:=fun j hj he=>by
  unfold fl at h
  rw [Option.map_eq_none_iff] at h
  exact List.find?_eq_none.1 h _ (List.getElem_mem hj) (decide_eq_true he)
theorem ya:∀ {L:List EN} {y:EN} {k:Nat},k≤L.length→(∀ j (hj:j < L.length),j < k→L[j].1.id < y.1.id)→(∀ hk:k < L.length,¬L[k].1.id < y.1.id)→fm L y=L.take k++y::L.drop k
  | [],y,k,hk,_,_=>by
    have:k=0:=by simpa using hk
    subst this; rfl
  | x::l,y,0,hk,h1,h2=>by
    have:=h2 (Nat.succ_pos _)
    unfold fm
    rw [show (if x.1.id < y.1.id then x::fm l y else y::x::l)=y::x::l from if_neg this]; rfl
  | x::l,y,k+1,hk,h1,h2=>by
    have h0:x.1.id < y.1.id:=h1 0 (Nat.succ_pos _) (Nat.succ_pos _)
    unfold fm
    rw [if_pos h0,ya (k:=k) (Nat.le_of_succ_le_succ hk) (fun j hj hjk=>h1 (j+1) (Nat.succ_lt_succ hj) (Nat.succ_lt_succ hjk)) (fun hk=>h2 (Nat.succ_lt_succ hk))]
    rfl
theorem set_set {α:Type} {l:List α} {k:Nat} (x y:α):(l.set k x).set k y=l.set k y:=List.set_set ..
end Go.PK

namespace Go.PK
open Go Go.RowKit
end Go.PK

namespace Go.PK
open Go Go.RowKit
def uS (fs:List FG) (id:Int):Int:=zP (fun x:FG=>decide (x.id=id)) fs
def sU (L:List EN) (id:Int):Int:=zP (fun x:EN=>decide (x.1.id=id)) L
theorem ixF_at {fs:List FG} {id:Int} {k:Nat} (hk:k < fs.length) (h:fs[k].id=id) (hn:∀ j (hj:j < fs.length),j < k→fs[j].id≠id):uS fs id=k:=zI hk (decide_eq_true h) fun j hj hjk=>decide_eq_false (hn j hj hjk)
theorem ixL_at {L:List EN} {id:Int} {k:Nat} (hk:k < L.length) (h:L[k].1.id=id) (hn:∀ j (hj:j < L.length),j < k→L[j].1.id≠id):sU L id=k:=zI hk (decide_eq_true h) fun j hj hjk=>decide_eq_false (hn j hj hjk)
theorem ixF_no {fs:List FG} {id:Int} (hn:∀ j (hj:j < fs.length),fs[j].id≠id):uS fs id=-1:=j8 fun j hj=>decide_eq_false (hn j hj)
theorem ixL_no {L:List EN} {id:Int} (hn:∀ j (hj:j < L.length),L[j].1.id≠id):sU L id=-1:=j8 fun j hj=>decide_eq_false (hn j hj)
theorem pr {fs:List FG} {id:Int} {f:FSt} (h:fl fs id=some f):∃ k,∃ hk:k < fs.length,uS fs id=k∧fs[k].s=f∧fs[k].id=id∧∀ g:FSt,dx fs id g=fs.set k { fs[k] with s:=g }:=by
  obtain ⟨k,hk,h1,h2,h3,h4⟩:=x9 h
  exact ⟨k,hk,ixF_at hk h2 h3,h1,h2,h4⟩
theorem gY {L:List EN} {id:Int} {e:EN} (h:cq L id=some e):∃ k,∃ hk:k < L.length,sU L id=k∧L[k]=e∧L[k].1.id=id∧∀ y:EN,y.1.id=id→dl L y=L.set k y:=by
  obtain ⟨k,hk,h1,h2,h3,h4⟩:=x8 h
  exact ⟨k,hk,ixL_at hk h2 h3,h1,h2,h4⟩
theorem pu {fs:List FG} {id:Int} (h:fl fs id=none):uS fs id=-1:=ixF_no (lkF_no h)
theorem gZ {L:List EN} {id:Int} (h:cq L id=none):sU L id=-1:=ixL_no (lkL_no h)
def fH (fs:List FG):Int:=(fs.map (·.s.al)).sum
theorem mK {fs:List FG} {k:Nat} (hk:k < fs.length):fH (fs.take (k+1))=fH (fs.take k)+fs[k].s.al:=by
  unfold fH
  rw [List.take_succ_eq_append_getElem hk,List.map_append,List.sum_append]
  simp
theorem mL {B:Int} {fs:List FG} (hB:0≤B) (h:∀ f∈fs,0≤f.s.al∧f.s.al≤B):∀ k,0≤fH (fs.take k)∧fH (fs.take k)≤(k:Int)*B
  | 0=>⟨Int.le_refl _,by simp [fH]⟩
  | k+1=>by
    have h1:=mL hB h k
    have e:((k+1:Nat):Int)*B=(k:Int)*B+B:=by push_cast; rw [Int.add_mul,Int.one_mul]
    rw [e]
    by_cases hk:k < fs.length
    · have h2:=h _ (List.getElem_mem hk)
      rw [mK hk]
      omega
    · rw [List.take_of_length_le (by omega)] at h1 ⊢
      omega
theorem yd {fs:List FG} {k:Nat} (hk:k < fs.length) {j:Nat} {n:Int} (hj:(xP fs[k])[j]?=some n):(er fs)[k*5+j]?=some n:=by
  have h1:(cD fs[k])[j]?=some (Value.int .i64 n):=by
    show ((xP fs[k]).map (Value.int .i64))[j]?=_
    rw [List.getElem?_map,hj]; rfl
  have h2:=x7 bF hk h1
  rw [zo,List.getElem?_map,Option.map_eq_some_iff] at h2
  obtain ⟨m,h3,h4⟩:=h2
  injection h4 with _ h4
  rw [h3,h4]
theorem rowIn.later {w w':World} {e:TypeId} {R:ak} (h:rowIn w e R) (hl:Later w w'):rowIn w' e R:=fun p hp=>(hl.block p.1 (dS (h p hp))).trans (h p hp)
theorem pw {l:List Int} (hl:l.length≤100000) (h:∀ n∈l,aj n):(⟨(cF l).toArray⟩:ByteArray).size≤2000000:=by
  have h1:∀ (l:List Int),(∀ n∈l,aj n)→(l.flatMap fun n=>bC (ko n)).length≤l.length*10:=by
    intro l
    induction l with
    | nil=>intro _; exact Nat.le_refl _
    | cons n t ih =>
      intro h
      have h2:=ih fun m hm=>h m (.tail _ hm)
      have h3:=h n (.head _)
      have h4:(bC (ko n)).length≤10:=dL (by unfold aj at h3; unfold ko; split <;> omega)
      rw [List.flatMap_cons,List.length_append,List.length_cons]
      omega
  have h2:=h1 l h
  have h3:(bC l.length).length≤10:=dL (by omega)
  show (cF l).toArray.size≤_
  rw [List.size_toArray]
  unfold cF
  rw [List.length_append]
  omega
theorem uT {l:List Int} (hl:l.length≤100000) (h:∀ n∈l,aj n):zv ⟨(cF l).toArray⟩=(l,0):=ri_ints (by omega) fun n hn=>h n hn
theorem ye {D:Nat→Prop} {w:World} {A:Option Addr} {l c:Nat} {xs:List Int} (h:ab i8 D w (.slice A l c) xs) (h0:0 < xs.length) :
    ∃ b off,A=some ⟨b,off,none⟩∧D b∧∀ k n,xs[k]?=some n→w.cell? ⟨b,off+k,none⟩=some (.int .i64 n)∧aj n:=by
  obtain ⟨A',c',e,h1,h2,h3⟩:=h
  injection e with e1 e2 e3
  obtain ⟨b,off,hA,hD,hb,hc⟩:=h3 h0
  refine ⟨b,off,e1.trans hA,hD,fun k n hn=>?_⟩
  obtain ⟨hk,rfl⟩:=List.getElem?_eq_some_iff.1 hn
  obtain ⟨cs,hcs,rfl,hok⟩:=hc k hk
  have:=hcs 0 (by simp)
  exact ⟨by simpa [i8] using this,hok⟩
structure opF (fs:List FG):Prop where
  len:fs.length≤10
  fg:∀ f∈fs,fgN f
  bd:∀ f∈fs,0≤f.s.al∧f.s.al≤1000000
  srt:uJ fs
  ends:∀ k (hk:k < fs.length),fs[k].par=0∨∃ j,∃ hj:j < fs.length,uS fs fs[k].par=(j:Nat)∧fs[j].par=0
theorem sV {fs:List FG} (h:uJ fs) {i j:Nat} (hi:i < fs.length) (hj:j < fs.length) (hij:i < j):fs[i].id < fs[j].id:=by
  unfold uJ at h
  rw [List.pairwise_map] at h
  exact List.pairwise_iff_getElem.1 h i j hi hj hij
theorem opF.new {m:Int} {fs:List FG} (h:fs.map iZ=uN m) (hm:0≤m∧m < 5000) (hok:∀ f∈fs,aR f.s):opF fs:=by
  obtain ⟨a,b,c,rfl,h1,h2,h3⟩:=fs3 h
  have ha:=hok ⟨1,0,a⟩ (.head _)
  have hb:=hok ⟨2,1,b⟩ (.tail _ (.head _))
  have hc:=hok ⟨3,1,c⟩ (.tail _ (.tail _ (.head _)))
  refine ⟨by show 3≤10; decide,?_,?_,?_,?_⟩
  · intro f hf
    simp only [List.mem_cons,List.not_mem_nil,or_false] at hf
    rcases hf with rfl | rfl | rfl
    · exact ⟨(by decide:(1:Int)≤1∧(1:Int)≤9223372036854775807),(by decide:(0:Int)≤0∧(0:Int)≤9223372036854775807),ha⟩
    · exact ⟨(by decide:(1:Int)≤2∧(2:Int)≤9223372036854775807),(by decide:(0:Int)≤1∧(1:Int)≤9223372036854775807),hb⟩
    · exact ⟨(by decide:(1:Int)≤3∧(3:Int)≤9223372036854775807),(by decide:(0:Int)≤1∧(1:Int)≤9223372036854775807),hc⟩
  · intro f hf
    simp only [List.mem_cons,List.not_mem_nil,or_false] at hf
    rcases hf with rfl | rfl | rfl <;> dsimp only <;> omega
  · unfold uJ; simp
  · intro k hk
    have hk:k < 3:=hk
    match k,hk with
    | 0,_=>exact .inl rfl
    | 1,_=>exact .inr ⟨0,Nat.succ_pos _,rfl,rfl⟩
    | 2,_=>exact .inr ⟨0,Nat.succ_pos _,rfl,rfl⟩
end Go.PK

namespace Go.PK
open Go Go.RowKit
def recD (fn:FuncId) (tmps:Array Value) (ps:Array Tmp) (assign body:Code) (D:Nat):Loop:={ state:=.done,pending:=some .ret,fn,tmps,params:=ps,assign,body,defers:=D }
section
variable {P:Program} {m n:Nat} {l:List (Nat×Value)} {own rest:List (Nat×Obj)} {ro:List av} {Q:Exit→Act→World→Prop} {R:Ending→World→Prop} {L:Nat} {fn:FuncId} {tmps:Array Value} {assign body:Code} {D:Nat}
theorem s_roundR {ps:Array Tmp} (h:∀ w',Mem w' ((L,.loop (recD fn tmps ps assign body D))::rest) ro→R (.returned (.bool false)) w') :
    S (roundPost P L R .ret) n l ((L,.loop (j3 .busy fn tmps ps assign body D))::rest) ro:=by
  intro a w ha hw
  have hl:=hw.own_at _ (.head _)
  exact ⟨_,_,run_endRound (some .ret) hl,h _ (Mem.turn (l1:=[]) hw (jv hl))⟩
theorem AY {w:World} {d1:Nat} {v1:Value} (hm:Mem w ((L,.loop (j3 .ready fn tmps #[d1] assign body D))::rest) ro) (hfh:FH n l ⟨tmps,[]⟩) (h1:decide (d1 < n)=true)
    (h:WI (Fence.wide.inRound L) m P assign (Exit.then (fun a w=>∃ w2,(Instr.beginRound L).run P w=.ok () w2∧body.wpIn (Fence.wide.inRound L) m P (roundPost P L R) a w2) (fun _ _ _=>False)) n ((d1,v1)::l) ((L,.loop (j3 .ready fn tmps #[d1] assign body D))::rest) ro) :
    YieldAt Fence.wide m P L #[v1] w R:=by
  have hl:=hm.own_at _ (.head _)
  have hy:=run_yield (P:=P) (args:=#[v1]) hl rfl
  refine ⟨fn,_,assign,body,hy,roundIn_of_wpIn trivial (h _ w ?_ hm)⟩
  have:=hfh.put v1 (of_decide_eq_true h1)
  have e:(#[d1]:Array Tmp).zip #[v1]=#[(d1,v1)]:=by
    apply Array.ext'
    simp
  show FH n ((d1,v1)::l) { tmps:=((#[d1]:Array Tmp).zip #[v1]).foldl (fun t (q:Tmp×Value)=>t.setIfInBounds q.1 q.2) tmps,defers:=[] }
  rw [e]
  exact this
theorem w_rangeX {g:Operand} {ps:Array Tmp} {gf:Nat} {lb:Array Value} {τ σ:Type} (I:τ→Prop) (O:τ→List (Nat×Obj)) (J:σ→Prop) (O2:σ→List (Nat×Obj)) (hg:ev l g=some (.func (.func gf) #[] lb)) (eg:∀ args w,(callFunc gf args).run P w=.ok (.enter gf args) w)
    (hc:∀ (L D:Nat) (fn:FuncId) (tmps:Array Value) (w1:World),FH n l ⟨tmps,[]⟩→Mem w1 ((L,.loop (j3 .ready fn tmps ps assign body D))::(D,.deferred (some []))::own) ro →
      Calls P gf (#[.func (.yield L) #[] #[]]++lb) w1 fun e w2=>(∃ v,e=.returned v)∧((∃ x,I x∧Mem w2 ((L,.loop (j3 .ready fn tmps ps assign body D))::(D,.deferred (some []))::O x) ro)∨(∃ x,J x∧Mem w2 ((L,.loop (recD fn tmps ps assign body D))::(D,.deferred (some []))::O2 x) ro)))
    (h:∀ D x,I x→SD D (Q .normal) n l ((D,.deferred (some []))::O x) ro) (h2:∀ D x,J x→SD D (Q .ret) n l ((D,.deferred (some []))::O2 x) ro):W P (.rangeFunc g ps assign body) Q n l own ro:=by
  intro a w ha hw
  refine (wpIn_wide (n:=1)).1 (wpIn_rangeFunc ?_)
  intro fn _
  have hgv:=ha.eval hg
  have hdf:a.defers=[]:=ha.df
  have h1:Mem (w.alloc (.deferred (some []))) ((w.heap.size,.deferred (some []))::own) ro:=hw.new _
  have h2':Mem ((w.alloc (.deferred (some []))).alloc (.loop (j3 .ready fn a.tmps ps assign body w.heap.size))) ((w.heap.size+1,.loop (j3 .ready fn a.tmps ps assign body w.heap.size))::(w.heap.size,.deferred (some []))::own) ro:=by
    have h3:=h1.new (.loop (j3 .ready fn a.tmps ps assign body w.heap.size))
    rwa [World.size_alloc] at h3
  have hfh:FH n l ⟨a.tmps,[]⟩:=⟨ha.sz,rfl,ha.at_⟩
  have hC:=hc _ _ fn a.tmps _ hfh h2'
  have hC2:CallsIn Fence.wide 0 P gf (#[.func (.yield (w.heap.size+1)) #[] #[]]++lb) ((w.alloc (.deferred (some []))).alloc (.loop (j3 .ready fn a.tmps ps assign body w.heap.size))) (rangePost Fence.wide 1 P (w.heap.size+1) Q { a with defers:=[{ target:=.collected w.heap.size,args:=#[] }]++a.defers }):=by
    refine callsIn_wide.2 (Calls.mono hC ?_)
    rintro e w2 ⟨⟨v,rfl⟩,⟨x,hx,hm⟩ | ⟨x,hx,hm⟩⟩
    · have hl:=hm.own_at _ (.head _)
      refine ⟨none,_,run_endLoop hl (by simp [j3]),?_⟩
      have h4:=Mem.turn (l1:=[]) hm (jv (o':=.loop { j3 .ready fn a.tmps ps assign body w.heap.size with state:=.exhausted }) hl)
      have h5:=h _ x hx a _ ha (h4.less (List.sublist_cons_self _ _) (fun _ h=>h))
      rw [hdf]
      exact h5
    · have hl:=hm.own_at _ (.head _)
      refine ⟨some .ret,_,run_endLoop hl (by simp [recD]),?_⟩
      have h4:=Mem.turn (l1:=[]) hm (jv (o':=.loop { recD fn a.tmps ps assign body w.heap.size with state:=.exhausted }) hl)
      have h5:=h2 _ x hx a _ ha (h4.less (List.sublist_cons_self _ _) (fun _ h=>h))
      rw [hdf]
      exact (wpIn_wide (n:=1)).2 (wp_ret h5)
  clear hC h2' h1
  have hres:(resolve a.eval (rangeCall g (w.heap.size+1)) 0).run P ((w.alloc (.deferred (some []))).alloc (.loop (j3 .ready fn a.tmps ps assign body w.heap.size)))=.ok { target:=.fn (.func gf) lb,args:=#[.func (.yield (w.heap.size+1)) #[] #[]] } ((w.alloc (.deferred (some []))).alloc (.loop (j3 .ready fn a.tmps ps assign body w.heap.size))):=by
    simp only [resolve,hgv]
    simp [go_sem]
  have hinv:∀ W:World,(invoke (.fn (.func gf) lb) #[.func (.yield (w.heap.size+1)) #[] #[]]).run P W=.ok (.enter gf (#[.func (.yield (w.heap.size+1)) #[] #[]]++lb)) W:=fun W=>by simp [invoke,go_sem,eg]
  exact ⟨w.heap.size+1,[{ target:=.collected w.heap.size,args:=#[] }],_,_,_,gf,_,_,run_enterLoop_outer _ _ _ _ _,hres,fun _ _=>trivial,hinv _,fun h=>by simp [Fence.wide] at h,hC2⟩
theorem yb {fd:Func} {p u:Tmp} {ty ty2:TypeId} (h:fd.results=#[.cell p ty,.cell u ty2]) (tmps:Array Value) (P:Program) (w:World) :
    (results fd tmps).run P w =
      ((asAddr (tmps.getD p undef)).run P w).andThen fun a w₁=>((loadVar ty a).run P w₁).andThen fun v w₂=>((asAddr (tmps.getD u undef)).run P w₂).andThen fun a2 w₃=>((loadVar ty2 a2).run P w₃).andThen fun v2 w₄=>.ok (.tuple #[v,v2]) w₄:=by
  simp only [results,h]
  simp [Sem.run_bind,Result.andThen]
theorem zy {w:World} {b:Nat} {ty:TypeId} {td:TypeDesc} {v:Value} (ht:P.underlying ty=some td) (hd:jD td=false) (hc:w.cell? ⟨b,0,none⟩=some v):(loadVar ty ⟨b,0,none⟩).run P w=.ok v w:=by
  simp [loadVar,gn ht,hd,hc]
theorem ret2M0 {fd:Func} {t u:Tmp} {ty ty2:TypeId} {td td2:TypeDesc} {b b2:Nat} {v v2:Value} (hr:fd.results=#[.cell t ty,.cell u ty2]) (hv:l.lookup t=some (.pointer (some ⟨b,0,none⟩))) (hu:l.lookup u=some (.pointer (some ⟨b2,0,none⟩)))
    (ht:P.underlying ty=some td) (hd:jD td=false) (ht2:P.underlying ty2=some td2) (hd2:jD td2=false) (hc:At own ro b 0 v) (hc2:At own ro b2 0 v2) (h:∀ w',Mem w' own ro→R (.returned (.tuple #[v,v2])) w'):S (bodyPostM Fence.wide m P fd R .ret) n l own ro:=by
  intro a w ha hw
  have h1:=ha.at_ t _ hv
  have h2:=ha.at_ u _ hu
  show LeavesInM Fence.wide m P fd a.tmps R a.defers .returning w
  rw [ha.df]
  refine ⟨_,?_,h w hw⟩
  rw [yb hr,show a.tmps.getD t undef=.pointer (some ⟨b,0,none⟩) by simp [Array.getD_eq_getD_getElem?,h1],show a.tmps.getD u undef=.pointer (some ⟨b2,0,none⟩) by simp [Array.getD_eq_getD_getElem?,h2]]
  simp [asAddr,zy ht hd (hc w hw),zy ht2 hd2 (hc2 w hw)]
theorem ret2M {fd:Func} {t u:Tmp} {ty ty2:TypeId} {td td2:TypeDesc} {b b2:Nat} {v v2:Value} (hr:fd.results=#[.cell t ty,.cell u ty2]) (hv:l.lookup t=some (.pointer (some ⟨b,0,none⟩))) (hu:l.lookup u=some (.pointer (some ⟨b2,0,none⟩)))
    (ht:P.underlying ty=some td) (hd:jD td=false) (ht2:P.underlying ty2=some td2) (hd2:jD td2=false) (hc:At rest ro b 0 v) (hc2:At rest ro b2 0 v2) (h:∀ w',Mem w' rest ro→R (.returned (.tuple #[v,v2])) w'):SD D (bodyPostM Fence.wide m P fd R .ret) n l ((D,.deferred (some []))::rest) ro:=by
  intro a w ha hw
  have hl:=hw.own_at _ (.head _)
  have hm2:=(Mem.turn (l1:=[]) hw (jv (o':=.deferred none) hl)).less (List.sublist_cons_self _ _) (fun _ h=>h)
  refine ⟨by simp,.inl ⟨D,_,rfl,run_takeDeferred hl,(.tuple #[v,v2]),?_,h _ hm2⟩⟩
  have h1:=ha.at_ t _ hv
  have h2:=ha.at_ u _ hu
  show (results fd a.tmps).run P _=_
  rw [yb hr,show a.tmps.getD t undef=.pointer (some ⟨b,0,none⟩) by simp [Array.getD_eq_getD_getElem?,h1],show a.tmps.getD u undef=.pointer (some ⟨b2,0,none⟩) by simp [Array.getD_eq_getD_getElem?,h2]]
  simp [asAddr,zy ht hd (hc _ hm2),zy ht2 hd2 (hc2 _ hm2)]
theorem zV {ops:Array Oper} {t ty:TypeId} {x y:Operand} {pos:String} {af:Array Edge} {r:List Oper} {v:Value} {b off k:Nat} {e:TypeId} {cs:List Value} (l1:List (Nat×Obj)) {l2:List (Nat×Obj)} (hx:ev l x=some (.pointer (some ⟨b,off,none⟩))) (hy:ev l y=some v)
    (hown:own=l1++(b,.cells cs.toArray e (0,0))::l2) (hs:(P.info? t).map (·.size)=some k) (hm:(decide (v.cells.size=k) && v.cells.toList.all (fun u=>u.oneCell'))=true) (hb:off+k≤cs.length)
    (h:SDL D P ops Q r n l (l1++(b,.cells (cs.take off++v.cells.toList++cs.drop (off+k)).toArray e (0,0))::l2) ro):SDL D P ops Q (⟨none,.store t x y,ty,pos,af,none⟩::r) n l own ro:=by
  subst hown
  intro a w ha hw
  simp only [Bool.and_eq_true,decide_eq_true_eq,List.all_eq_true] at hm
  obtain ⟨hm,h1⟩:=hm
  refine wpList_step fun K hK=>?_
  rw [if_pos (by simp [Region.wanted])]
  have he:(Act.eval { a with defers:=[{ target:=.collected D,args:=#[] }] })=a.eval:=by funext x; cases x <;> rfl
  have hg:w.heap[b]?=some (.cells cs.toArray e (0,0)):=hw.own_at (b,_) (by simp)
  have hlen:v.cells.toList.length=k:=by simpa using hm
  have hst:=run_storeCells_at (P:=P) b off e v.cells.toList 0 cs.toArray w hg (by simp only [List.size_toArray]; omega) h1
  have hst2:(storeVar t ⟨b,off,none⟩ v).run P w=.ok () (w.setRow b (cs.take off++v.cells.toList++cs.drop (off+k)).toArray):=by
    simp only [storeVar,Sem.run_bind,run_sizeOf hs,Result.andThen_ok,hm,ne_eq,not_true,if_false,hst,Nat.add_zero,hlen]
  unfold Oper.wp
  rw [he]
  have hrun:(execOp a.eval ⟨none,.store t x y,ty,pos,af,none⟩).run P w=.ok .skip (w.setRow b (cs.take off++v.cells.toList++cs.drop (off+k)).toArray):=by
    simp only [execOp,ha.eval hx,ha.eval hy,Instr.storeAt,Instr.sureAddr,Sem.run_bind,Sem.run_pure,Result.andThen_ok,hst2]
  rw [hrun]
  exact hK _ _ (h a _ ha (hw.turn (zB hg)))
end
section
variable {P:Program} {m n:Nat} {l:List (Nat×Value)} {own:List (Nat×Obj)} {ro:List av} {Q:Exit→Act→World→Prop}
theorem s_yieldV {lops:List Oper} {j d t L:Nat} {xs:Array Operand} {tys:Array TypeId} {ty:TypeId} {pos:String} {af:Array Edge} {vs:List Value} {τ:Type} (V:τ→Value) (I:τ→Prop) (O:τ→List (Nat×Obj))
    (ho:lops[j]?=some ⟨some d,.call ⟨.value (.tmp t),xs,tys⟩,ty,pos,af,none⟩) (hd:decide (d < n)=true) (hf:l.lookup t=some (.func (.yield L) #[] #[])) (hx:lw l xs.toList=some vs) (hm:decide (1≤m)=true)
    (hY:∀ w,Mem w own ro→YieldAt Fence.wide (m - 1) P L vs.toArray w fun e w'=>∃ x,e=.returned (V x)∧I x∧Mem w' (O x) ro)
    (h:∀ x,I x→S (fun a w=>wpListIn Fence.wide m P lops.toArray Q (lops.drop (j+1)) a w) n ((d,V x)::l) (O x) ro):S (fun a w=>wpListIn Fence.wide m P lops.toArray Q (lops.drop j) a w) n l own ro:=by
  intro a w ha hw
  have hlt:j < lops.length:=(List.getElem?_eq_some_iff.1 ho).1
  have he:lops[j]=⟨some d,.call ⟨.value (.tmp t),xs,tys⟩,ty,pos,af,none⟩:=by
    rw [List.getElem?_eq_getElem hlt] at ho; exact Option.some.inj ho
  obtain ⟨fn,tmps,assign,body,hy,hR⟩:=hY w hw
  show wpListIn Fence.wide m P lops.toArray Q (lops.drop j) a w
  rw [List.drop_eq_getElem_cons hlt,he]
  refine wpListIn_plain rfl fun K hK=>?_
  refine ⟨fun _ _=>trivial,?_⟩
  rw [Oper.semAt_eq _ _ _ (fun c e=>by cases e)]
  have hev:=ha.evals hx
  have hrun:(execOp a.eval ⟨some d,.call ⟨.value (.tmp t),xs,tys⟩,ty,pos,af,none⟩).run P w=.ok (.round L fn tmps assign body) w:=by
    have h1:(xs.map a.eval)=vs.toArray:=by
      apply Array.ext'
      rw [Array.toList_map,hev]
    have hft:a.tmps[t]?.getD undef=.func (.yield L) #[] #[]:=by rw [ha.at_ t _ hf]; rfl
    simp [execOp,resolve,hft,h1,go_sem,invoke,hy]
  rw [hrun]
  refine ⟨fun _=>of_decide_eq_true hm,?_⟩
  refine hR.mono ?_
  rintro e w' ⟨x,rfl,hI,hm'⟩
  exact hK _ _ (h x hI _ w' (ha.put (V x) (of_decide_eq_true hd)) hm')
theorem v_scut_3 {t ty:TypeId} {x y z z':Operand} {e:TypeId} {A:Option Addr} {len cap i j k m:Nat} {k1 k2 k3:IntKind} (ht:P.underlying t=some (.slice e)) (hs:(P.info? e).map (·.size)=some m) (hx:ev l x=some (.slice A len cap)) (hy:ev l y=some (.int k1 (i:Nat))) (hz:ev l z=some (.int k2 (j:Nat))) (hz':ev l z'=some (.int k3 (k:Nat))) (hij:i≤j) (hjk:j≤k) (hk:k≤cap) :
    cx P n l own ro (.slice t x (some y) (some z) (some z')) ty (.slice (if k=i then A else A.map (fun a=>a.add (i*m))) (j - i) (k - i)):=by
  intro a w o ha hw ho _
  have h2:(Instr.sliceAt t (.slice A len cap) (some (.int k1 (i:Nat))) (some (.int k2 (j:Nat))) (some (.int k3 (k:Nat)))).run P w=.ok (.slice (if k=i then A else A.map (fun a=>a.add (i*m))) (j - i) (k - i)) w:=by
    simp [Instr.sliceAt,Instr.slice,Instr.sliceBounds,Instr.sliceBound,asIntOf,run_underlying ht,hij,hjk,hk,run_sizeOf hs]
  simp [execOp,ho,ha.eval hx,ha.eval hy,ha.eval hz,ha.eval hz',h2]
theorem v_chunk {t ty:TypeId} {x y z z':Operand} {e:TypeId} {A:Option Addr} {len cap i n0 m:Nat} {k1 k2 k3:IntKind} (ht:P.underlying t=some (.slice e)) (hs:(P.info? e).map (·.size)=some m) (hx:ev l x=some (.slice A len cap)) (hy:ev l y=some (.int k1 (i:Nat))) (hz:ev l z=some (.int k2 ((i+n0:Nat):Int))) (hz':ev l z'=some (.int k3 ((i+n0:Nat):Int))) (h0:0 < n0) (hk:i+n0≤cap) :
    cx P n l own ro (.slice t x (some y) (some z) (some z')) ty (.slice (A.map (fun a=>a.add (i*m))) n0 n0):=by
  have h:=v_scut_3 (n:=n) (own:=own) (ro:=ro) (ty:=ty) ht hs hx hy hz hz' (by omega) (Nat.le_refl _) hk
  rw [if_neg (by omega),Nat.add_sub_cancel_left] at h
  exact h
end
end Go.PK

namespace Go.PK
open Go
theorem xA {l:List Int} {i:Nat} (h:i < l.length):l.getD i 0=l[i]:=by rw [List.getD_eq_getElem?_getD,List.getElem?_eq_getElem h]; rfl
def s8 (e:EN):Prop:=ej { e.1 with price:=e.2 }∧(0≤e.1.price∧e.1.price≤999999999)∧(if e.1.st=-1 then e.1.prom=e.1.paid∧0≤e.1.paid∧e.1.paid≤e.1.copies else 0≤e.1.paid∧e.1.paid≤e.1.st∧e.1.st≤e.1.prom∧e.1.prom≤e.1.copies∧0 < e.1.prom)
instance (e:EN):Decidable (s8 e):=by unfold s8; infer_instance
def s9 (l:List Int) (i:Nat):EN:=(⟨l.getD i 0,l.getD (i+1) 0,l.getD (i+2) 0,l.getD (i+3) 0,l.getD (i+4) 0,l.getD (i+5) 0,l.getD (i+6) 0,l.getD (i+7) 0,l.getD (i+8) 0⟩,l.getD (i+9) 0)
def yA (l:List Int):Nat→Option (List EN)
  | 0=>some []
  | k+1=>match yA l k with
    | none=>none
    | some L=>if s8 (s9 l (10*k))∧(∀ e∈L.getLast?,e.1.id < (s9 l (10*k)).1.id)∧0 < (s9 l (10*k)).1.id then some (L++[s9 l (10*k)]) else none
def xb (s:ByteArray):Option (List EN) :=
  if (zv s).2≠0∨(zv s).1.length%10≠0∨50000 < (zv s).1.length then none else yA (zv s).1 ((zv s).1.length / 10)
theorem zL {l:List Int} {k q:Nat} (h:yA l k=none) (hq:k≤q):yA l q=none:=by
  induction q with
  | zero=>obtain rfl:k=0:=by omega
          exact h
  | succ q ih =>
    rcases Nat.lt_or_ge q k with h' | h'
    · obtain rfl:k=q+1:=by omega
      exact h
    · unfold yA; rw [ih h']
theorem zC {l:List Int}:∀ {k:Nat} {L:List EN},yA l k=some L→L.length=k
  | 0,L,h=>by unfold yA at h; cases h; rfl
  | k+1,L,h=>by
    unfold yA at h
    cases hk:yA l k with
    | none=>rw [hk] at h; cases h
    | some L' =>
      rw [hk] at h
      dsimp only at h
      split at h
      · cases h; rw [List.length_append,zC hk]; rfl
      · cases h
theorem Ay {l:List Int}:∀ {k:Nat} {L:List EN},yA l k=some L→L=(List.range k).map fun j=>s9 l (10*j)
  | 0,L,h=>by unfold yA at h; cases h; rfl
  | k+1,L,h=>by
    unfold yA at h
    cases hk:yA l k with
    | none=>rw [hk] at h; cases h
    | some L' =>
      rw [hk] at h
      dsimp only at h
      split at h
      · cases h
        rw [List.range_succ,List.map_append,← Ay hk]; rfl
      · cases h
theorem Al {l:List Int} {k:Nat} {L:List EN} (h:yA l (k+1)=some L):L.getLast?=some (s9 l (10*k)):=by
  rw [Ay h,List.range_succ,List.map_append]; simp
theorem opO_succ {l:List Int} {k:Nat} {L:List EN} (h:yA l k=some L) (hr:s8 (s9 l (10*k))) (hl:0 < k→(s9 l (10*(k - 1))).1.id < (s9 l (10*k)).1.id):yA l (k+1)=some (L++[s9 l (10*k)]):=by
  have h0:0 < (s9 l (10*k)).1.id:=by have:=hr.1.1; dsimp only at this; omega
  unfold yA
  rw [h]
  dsimp only
  rw [if_pos]
  refine ⟨hr,fun e he=>?_,h0⟩
  cases k with
  | zero=>unfold yA at h; cases h; cases he
  | succ k =>
    rw [Al h] at he
    cases he
    exact hl (by omega)
theorem opO_fail {l:List Int} {k:Nat} {L:List EN} (h:yA l k=some L) (hr:¬s8 (s9 l (10*k))∨(0 < k∧(s9 l (10*k)).1.id≤(s9 l (10*(k - 1))).1.id)):yA l (k+1)=none:=by
  unfold yA
  rw [h]
  dsimp only
  rw [if_neg]
  rintro ⟨h1,h2,h3⟩
  rcases hr with hr | ⟨hk,hr⟩
  · exact hr h1
  · cases k with
    | zero=>omega
    | succ k =>
      have:=h2 _ (by rw [Al h]; rfl)
      rw [Nat.add_sub_cancel] at hr
      omega
end Go.PK

namespace Go.PK
open Go Go.RowKit
def bZ (s:SG) (ln:Ord):Int×SG :=
  match cq s.L ln.id with
  | none=>(32,s)
  | some (x,first) =>
    if bA s.tol ln (some (x,first))≠0 then (bA s.tol ln (some (x,first)),s)
    else if (ap aS s.fs x.fund (ln.copies*x.price)).1≠0 then ((ap aS s.fs x.fund (ln.copies*x.price)).1,s)
    else if (ap bK (ap aS s.fs x.fund (ln.copies*x.price)).2 x.fund (ln.copies*ln.price)).1≠0 then ((ap bK (ap aS s.fs x.fund (ln.copies*x.price)).2 x.fund (ln.copies*ln.price)).1,⟨(ap aS s.fs x.fund (ln.copies*x.price)).2,s.tol,s.L⟩)
    else (0,⟨(ap bK (ap aS s.fs x.fund (ln.copies*x.price)).2 x.fund (ln.copies*ln.price)).2,s.tol,dl s.L ({ x with paid:=x.paid+ln.copies },first)⟩)
theorem zp {s:SG} {ln:Ord} {ls:List Ord}:iY s.tol s.fs s.L (ln::ls)=if (bZ s ln).1≠0 then ((bZ s ln).1,s.fs,s.L) else iY s.tol (bZ s ln).2.fs (bZ s ln).2.L ls:=by
  have e0:iY s.tol s.fs s.L (ln::ls)=match cq s.L ln.id with
    | none=>(32,s.fs,s.L)
    | some (x,first) =>
      if bA s.tol ln (some (x,first))≠0 then (bA s.tol ln (some (x,first)),s.fs,s.L)
      else if (ap aS s.fs x.fund (ln.copies*x.price)).1≠0 then ((ap aS s.fs x.fund (ln.copies*x.price)).1,s.fs,s.L)
      else if (ap bK (ap aS s.fs x.fund (ln.copies*x.price)).2 x.fund (ln.copies*ln.price)).1≠0 then ((ap bK (ap aS s.fs x.fund (ln.copies*x.price)).2 x.fund (ln.copies*ln.price)).1,s.fs,s.L)
      else iY s.tol (ap bK (ap aS s.fs x.fund (ln.copies*x.price)).2 x.fund (ln.copies*ln.price)).2 (dl s.L ({ x with paid:=x.paid+ln.copies },first)) ls:=by
    cases h:cq s.L ln.id with
    | none=>simp only [iY,h]
    | some z=>simp only [iY,h]
  rw [e0]
  cases hl:cq s.L ln.id with
  | none =>
    have e:bZ s ln=(32,s):=by unfold bZ; rw [hl]
    rw [e]; rfl
  | some z =>
    obtain ⟨x,first⟩:=z
    dsimp only
    by_cases h1:bA s.tol ln (some (x,first))≠0
    · have e:bZ s ln=(bA s.tol ln (some (x,first)),s):=by unfold bZ; rw [hl]; exact if_pos h1
      rw [e,if_pos h1,if_pos h1]
    by_cases h2:(ap aS s.fs x.fund (ln.copies*x.price)).1≠0
    · have e:bZ s ln=((ap aS s.fs x.fund (ln.copies*x.price)).1,s):=by unfold bZ; rw [hl]; exact (if_neg h1).trans (if_pos h2)
      rw [e,if_neg h1,if_pos h2,if_pos h2]
    by_cases h3:(ap bK (ap aS s.fs x.fund (ln.copies*x.price)).2 x.fund (ln.copies*ln.price)).1≠0
    · have e:bZ s ln=((ap bK (ap aS s.fs x.fund (ln.copies*x.price)).2 x.fund (ln.copies*ln.price)).1,⟨(ap aS s.fs x.fund (ln.copies*x.price)).2,s.tol,s.L⟩):=by unfold bZ; rw [hl]; exact (if_neg h1).trans ((if_neg h2).trans (if_pos h3))
      rw [e,if_neg h1,if_neg h2,if_pos h3,if_pos h3]
    · have e:bZ s ln=(0,⟨(ap bK (ap aS s.fs x.fund (ln.copies*x.price)).2 x.fund (ln.copies*ln.price)).2,s.tol,dl s.L ({ x with paid:=x.paid+ln.copies },first)⟩):=by unfold bZ; rw [hl]; exact (if_neg h1).trans ((if_neg h2).trans (if_neg h3))
      rw [e,if_neg h1,if_neg h2,if_neg h3,if_neg (fun q=>q rfl)]
theorem payO_tol {s:SG} {ln:Ord}:(bZ s ln).2.tol=s.tol:=by
  unfold bZ
  split
  · rfl
  · split
    · rfl
    · split
      · rfl
      · split <;> rfl
theorem payO_ok {s:SG} (h:SGok s) {ln:Ord} (hc:0≤ln.copies):SGok (bZ s ln).2:=by
  unfold bZ
  split
  · exact h
  · rename_i x first hl
    split
    · exact h
    · rename_i hck
      split
      · exact h
      · have h1:=fh (R:=aS) (id:=x.fund) (n:=ln.copies*x.price) (fun f n=>mD) h.fs
        split
        · exact ⟨h1,h.tol,h.L,h.srt⟩
        · have h2:=fh (R:=bK) (id:=x.fund) (n:=ln.copies*ln.price) (fun f n=>vH) h1
          have hm:=(bL hl).1
          have hcl:=lY (Decidable.of_not_not hck)
          exact SGok.set (s:=s) h h2 ⟨kr (h.L _ hm).1 ⟨hc,hcl.1⟩,(h.L _ hm).2⟩
theorem Mem.pick {w:World} {ro:List av} {a b x y:Nat×Obj} {A B C D L:List (Nat×Obj)} (h:Mem w (a::(A++(b::(B++(x::(C++(y::(D++L)))))))) ro):Mem w (x::(A++(y::(B++L)))) ro:=by
  have h1:Mem w (A++(B++(x::(y::L)))) ro:=h.less (.cons _ ((List.Sublist.refl A).append (.cons _ ((List.Sublist.refl B).append (.cons_cons _ ((List.Sublist.cons_cons y (List.sublist_append_right D L)).trans (List.sublist_append_right C _))))))) (fun _ h=>h)
  refine h1.perm ?_
  have p1:(B++(x::(y::L))).Perm (x::(y::(B++L))):=List.perm_middle.trans (.cons _ List.perm_middle)
  exact (List.Perm.append_left A p1).trans (List.perm_middle.trans (.cons _ (List.Perm.refl _)))
theorem Mem.pick2 {w:World} {ro:List av} {a b x:Nat×Obj} {A B C L:List (Nat×Obj)} (h:Mem w (A++(B++(a::b::(x::(C++L))))) ro):Mem w (x::(A++L)) ro:=by
  have h1:Mem w (A++(x::L)) ro:=h.less ((List.Sublist.refl A).append ((List.Sublist.cons _ (.cons _ (.cons_cons _ (List.sublist_append_right C L)))).trans (List.sublist_append_right B _))) (fun _ h=>h)
  exact h1.perm List.perm_middle
end Go.PK

namespace Go.PK
open Go Go.RowKit
theorem Turned.row {w:World} {g:Nat} {cur row:Array Value} {t:TypeId} (hg:w.heap[g]?=some (.cells cur t (0,0))):Turned w (w.setRow g row) g (.cells row t (0,0)) where
  os:=rfl
  tape:=rfl
  output:=rfl
  size:=by simp [World.setRow]
  at_:=setRow_heap w g cur row t _ hg
  other:=fun k hk=>by simp only [World.setRow]; rw [Array.getElem?_modify]; rw [if_neg (fun e=>hk e.symm)]
section
variable {P:Program} {n:Nat} {l:List (Nat×Value)} {own:List (Nat×Obj)} {ro:List av} {lops:List Oper} {Q:Exit→Act→World→Prop} {K:Act→World→Prop}
  {rest:List (Option Bool×Nat)} {k:Option Bool} {i d:Nat} {op:Op} {ty:TypeId} {pos:String} {af:Array Edge} {x y z':Operand} {t t1 t2:TypeId}
end
section
variable {P:Program} {n:Nat} {l:List (Nat×Value)} {own:List (Nat×Obj)} {ro:List av} {ty:TypeId} {x y:Operand} {t:TypeId}
end
end Go.PK

namespace Go.PK
open Go Go.RowKit
section
variable {P:Program} {n:Nat} {l:List (Nat×Value)} {own:List (Nat×Obj)} {ro:List av}
theorem AZ {t ty:TypeId} {x y z:Operand} {e:TypeId} {len cap i j m b o:Nat} {k1 k2:IntKind} (ht:P.underlying t=some (.slice e)) (hs:(P.info? e).map (·.size)=some m) (hx:ev l x=some (.slice (some ⟨b,o,none⟩) len cap)) (hy:ev l y=some (.int k1 (i:Nat))) (hz:ev l z=some (.int k2 (j:Nat))) (hij:i≤j) (hj:j≤cap) (hi:i < cap) :
    cx P n l own ro (.slice t x (some y) (some z) none) ty (.slice (some ⟨b,o+i*m,none⟩) (j - i) (cap - i)):=by
  intro a w q ha hw hq _
  have h2:(Instr.sliceAt t (.slice (some ⟨b,o,none⟩) len cap) (some (.int k1 (i:Nat))) (some (.int k2 (j:Nat))) none).run P w=.ok (.slice (if cap=i then some ⟨b,o,none⟩ else (some (⟨b,o,none⟩:Addr)).map (fun a=>a.add (i*m))) (j - i) (cap - i)) w:=by
    simp [Instr.sliceAt,Instr.slice,Instr.sliceBounds,Instr.sliceBound,asIntOf,run_underlying ht,hij,hj,run_sizeOf hs]
  rw [if_neg (by omega),Option.map_some,jh] at h2
  simp [execOp,hq,ha.eval hx,ha.eval hy,ha.eval hz,h2]
theorem v_scut_w {t ty:TypeId} {x y z:Operand} {e:TypeId} {len cap i n0 m b o:Nat} {k1 k2:IntKind} (ht:P.underlying t=some (.slice e)) (hs:(P.info? e).map (·.size)=some m) (hx:ev l x=some (.slice (some ⟨b,o,none⟩) len cap)) (hy:ev l y=some (.int k1 (i:Nat))) (hz:ev l z=some (.int k2 ((i+n0:Nat):Int))) (h0:0 < n0) (hj:i+n0≤cap) :
    cx P n l own ro (.slice t x (some y) (some z) none) ty (.slice (some ⟨b,o+i*m,none⟩) n0 (cap - i)):=by
  have h:=AZ (n:=n) (own:=own) (ro:=ro) (ty:=ty) ht hs hx hy hz (by omega) hj (by omega)
  rw [Nat.add_sub_cancel_left] at h
  exact h
end
end Go.PK

namespace Go.PK
open Go Go.RowKit
section
variable {P:Program} {oF:List (Nat×Obj)} {rF:List av}
theorem zM {Q:Exit→Act→World→Prop} {a:Act} {w:World} {l:List Oper} (n:Nat) (plan:List (Bool×Nat)) (hB:An .any l.toArray n plan=true)
    (h:kD P l.toArray (fun a' w'=>∀ w'',Later w' w''→wpList P l.toArray Q (l.drop n) a' w'') plan a w):wpAny P .any l.toArray Q l.toArray.size (Array.replicate l.toArray.size false) a { w with drawn:=w.drawn+1 }:=by
  simp only [An,Bool.and_eq_true,decide_eq_true_eq] at hB
  obtain ⟨⟨⟨hsel,hn⟩,hlen⟩,hpl⟩:=hB
  have hnle:n≤l.toArray.size:=by
    rcases Bool.or_eq_true _ _▸hn with hn | hn
    · simp only [decide_eq_true_eq] at hn; omega
    · simp only [Bool.and_eq_true,decide_eq_true_eq] at hn; omega
  have hnt:∀ i,i < n→∀ listed,HeadInv .any l.toArray n listed→listed.getD i true=false→∀ j∈Region.ready .any l.toArray listed,j < n:=by
    intro i hin listed inv hun j hj
    rcases Bool.or_eq_true _ _▸hn with hn | hn
    · simp only [decide_eq_true_eq] at hn
      have:=nK j hj
      omega
    · simp only [Bool.and_eq_true,decide_eq_true_eq] at hn
      obtain ⟨⟨hn,hs⟩,hc⟩:=hn
      rcases Nat.lt_or_ge j n with h | h
      · exact h
      · exact absurd hj (tail_waits hs hc hn inv _ i rfl hin hun j h)
  have inv0:HeadInv .any l.toArray n (Array.replicate l.toArray.size false) :=
    ⟨by simp,fun j oj _ hl=>(by rw [getD_replicate_false] at hl; cases hl),fun t _ ht=>getD_in (by simpa using ht) (getD_replicate_false _ _)⟩
  have H:=ie (P:=P) (md:=.any) (Q:=fun a' w'=>∀ w'',Later w' w''→wpList P l.toArray Q (l.drop n) a' w'') (fun a w w' hw hq w'' hw''=>hq w'' (hw.trans hw'')) hsel hnt plan _ a w inv0 hpl h
  have hdl:(l.drop n).length=l.toArray.size - n:=by simp
  have:=jc (Q':=Q) (g:=l.toArray.size - n) (fun listed a' w' hL=>by
    have:=wpAny_of_seq (md:=.any) (Q':=Q) (l.drop n) n listed a' w' (fun j=>by simp [List.getElem?_drop]) (by rw [hdl]; exact hL.1) (hL.2 w' (Later.refl _))
    rwa [hdl] at this) _ _ _ _ (eQ (fun _ _ _ _ hw hq=>⟨hq.1,fun w2 h2=>hq.2 w2 (hw.trans h2)⟩) _ _ _ _ _ (Later.drew w) H)
  rw [hlen,show n+(l.toArray.size - n)=l.toArray.size by omega] at this
  exact this
theorem zz {F:Fence} {m:Nat} (hF:Lets F m P) {lops:List Oper} {Q:Exit→Act→World→Prop} (hno:¬LetsOut Q) (hd:lops.all (fun o=>match o.op with | .defer _=>false | _=>true)=true) :
    ∀ (f:Nat) (listed:Array Bool) (a:Act) (w:World),wpAny P .any lops.toArray Q f listed a w→wpAnyIn F m P .any lops.toArray Q f listed a w
  | 0,listed,a,w,h=>h
  | f+1,listed,a,w,h=>by
    obtain ⟨h1,h2⟩:=h
    refine ⟨h1,fun i hi=>?_⟩
    have h3:=h2 i hi
    unfold wpOp at h3
    unfold wpOpIn
    cases ho:lops.toArray[i]? with
    | none=>rw [ho] at h3; exact zz hF hno hd f _ a w h3
    | some o =>
      rw [ho] at h3
      dsimp only at h3 ⊢
      split at h3
      · rename_i hw
        rw [if_pos hw]
        rcases h3 with h3 | h3
        · have hmem:o∈lops:=by
            rw [List.getElem?_toArray] at ho
            exact List.mem_of_getElem? ho
          exact hF.op (Ad hd hmem) (Oper.wp_mono (fun a' w' hk=>zz hF hno hd f _ a' w' hk) h3)
        · exact absurd h3.2 hno
      · rename_i hw
        rw [if_neg hw]
        exact ⟨fun g _=>hF.fn g,zz hF hno hd f _ _ w h3⟩
end
section
variable {P:Program} {m n:Nat} {l:List (Nat×Value)} {own:List (Nat×Obj)} {ro:List av} {F:Fence} {Q:Exit→Act→World→Prop}
theorem ri_draw (hF:Lets F m P) (hno:¬LetsOut Q) {id:Nat} {lops:List Oper} (k:Nat) (plan:List (Bool×Nat)) (hm:P.follows .mixedOrders=true) (hB:An .any lops.toArray k plan=true) (hd:lops.all (fun o=>match o.op with | .defer _=>false | _=>true)=true)
    (h:WX P lops.toArray Q (fun a w=>Q .normal a w) ((plan.map fun p=>(some p.1,p.2))++dX k lops.length) n l own ro):WI F m P (.region id lops.toArray true) Q n l own ro:=fun a w ha hw =>
  wpIn_region_any hm (zz hF hno hd _ _ _ _ (zM k plan hB (jf k plan a w (h a w ha hw))))
theorem wi_ret (h:S (Q .ret) n l own ro):WI F m P .ret Q n l own ro:=fun a w ha hw=>wpIn_ret (h a w ha hw)
theorem no_round {L:Nat} {R:Ending→World→Prop}:¬LetsOut (roundPost P L R):=fun ⟨_,_,h⟩=>h
theorem no_then {K:Act→World→Prop} (h:¬LetsOut Q):¬LetsOut (Exit.then K Q):=fun ⟨a,w,h1⟩=>h ⟨a,w,h1⟩
theorem no_block {id:Nat} (h:¬LetsOut Q):¬LetsOut (Exit.inBlock id Q):=fun ⟨a,w,h1⟩=>h ⟨a,w,h1⟩
theorem w_rangeR {assign body:Code} {g:Operand} {ps:Array Tmp} {gf:Nat} {lb:Array Value} {τ σ:Type} (I:τ→Prop) (O:τ→List (Nat×Obj)) (J:σ→Prop) (O2:σ→List (Nat×Obj)) (hg:ev l g=some (.func (.func gf) #[] lb)) (eg:∀ args w,(callFunc gf args).run P w=.ok (.enter gf args) w)
    (hc:∀ (L D:Nat) (fn:FuncId) (tmps:Array Value) (w1:World) (rr rd:Loop),rr=j3 .ready fn tmps ps assign body D→rd=recD fn tmps ps assign body D→FH n l ⟨tmps,[]⟩→Mem w1 ((L,.loop rr)::(D,.deferred (some []))::own) ro →
      Calls P gf (#[.func (.yield L) #[] #[]]++lb) w1 fun e w2=>(∃ v,e=.returned v)∧((∃ x,I x∧Mem w2 ((L,.loop rr)::(D,.deferred (some []))::O x) ro)∨(∃ x,J x∧Mem w2 ((L,.loop rd)::(D,.deferred (some []))::O2 x) ro)))
    (h:∀ D x,I x→SD D (Q .normal) n l ((D,.deferred (some []))::O x) ro) (h2:∀ D x,J x→SD D (Q .ret) n l ((D,.deferred (some []))::O2 x) ro):W P (.rangeFunc g ps assign body) Q n l own ro :=
  w_rangeX I O J O2 hg eg (fun L D fn tmps w1 hf hm=>hc L D fn tmps w1 _ _ rfl rfl hf hm) h h2
end
end Go.PK

namespace Go.PK
open Go
def xc (L:List EN):Int:=match L.getLast? with | none=>0 | some e=>e.1.id
theorem zF {L:List EN} {e:EN}:xc (L++[e])=e.1.id:=by unfold xc; rw [List.getLast?_concat]
theorem zN {e:EN} (h:s8 e):0 < e.1.id:=by have:=h.1.1; dsimp only at this; omega
theorem zD {l:List Int} {k:Nat} {L:List EN} (h:yA l k=some L):yA l (k+1)=if s8 (s9 l (10*k))∧xc L < (s9 l (10*k)).1.id then some (L++[s9 l (10*k)]) else none:=by
  show (match yA l k with
    | none=>none
    | some L=>if s8 (s9 l (10*k))∧(∀ e∈L.getLast?,e.1.id < (s9 l (10*k)).1.id)∧0 < (s9 l (10*k)).1.id then some (L++[s9 l (10*k)]) else none)=_
  rw [h]
  dsimp only
  by_cases hr:s8 (s9 l (10*k))
  · have h0:=zN hr
    unfold xc
    cases hg:L.getLast? with
    | none=>rw [if_pos ⟨hr,fun e he=>(by cases he),h0⟩,if_pos ⟨hr,h0⟩]
    | some e =>
      by_cases hl:e.1.id < (s9 l (10*k)).1.id
      · rw [if_pos ⟨hr,fun e' he=>(by cases he; exact hl),h0⟩,if_pos ⟨hr,hl⟩]
      · rw [if_neg (fun q=>hl (q.2.1 e rfl)),if_neg (fun q=>hl q.2)]
  · rw [if_neg (fun q=>hr q.1),if_neg (fun q=>hr q.1)]
theorem zZ {l:List Int}:∀ {k:Nat} {L:List EN},yA l k=some L→lc L∧(∀ e∈L,s8 e)∧∀ e∈L,e.1.id≤xc L
  | 0,L,h=>by
    unfold yA at h; cases h
    exact ⟨List.Pairwise.nil,(fun e he=>by cases he),fun e he=>by cases he⟩
  | k+1,L,h=>by
    cases hk:yA l k with
    | none=>rw [zL hk (Nat.le_succ _)] at h; cases h
    | some L' =>
      rw [zD hk] at h
      split at h
      · rename_i hc
        cases h
        obtain ⟨h1,h2,h3⟩:=zZ hk
        refine ⟨List.pairwise_append.2 ⟨h1,List.pairwise_singleton _ _,fun a ha b hb=>?_⟩,fun e he=>?_,fun e he=>?_⟩
        · rw [List.mem_singleton.1 hb]
          exact Int.lt_of_le_of_lt (h3 a ha) hc.2
        · rcases List.mem_append.1 he with he | he
          · exact h2 e he
          · rw [List.mem_singleton.1 he]; exact hc.1
        · rw [zF]
          rcases List.mem_append.1 he with he | he
          · exact Int.le_of_lt (Int.lt_of_le_of_lt (h3 e he) hc.2)
          · rw [List.mem_singleton.1 he]; exact Int.le_refl _
      · cases h
theorem lkL_new {L:List EN} {id:Int} (h:∀ e∈L,e.1.id < id):cq L id=none:=by
  unfold cq
  rw [List.find?_eq_none]
  intro e he
  have:=h e he
  simp only [decide_eq_true_eq]
  omega
theorem Am:∀ {L:List EN} {y:EN},(∀ e∈L,e.1.id < y.1.id)→fm L y=L++[y]
  | [],y,h=>rfl
  | x::L,y,h=>by
    unfold fm
    rw [if_pos (h x (.head _)),Am (fun e he=>h e (.tail _ he))]; rfl
theorem opO_put {l:List Int} {k:Nat} {L:List EN} {E:EN} (h:yA l k=some L) (hl:xc L < E.1.id):ir (fR L) (.int .i64 E.1.id) (yV E.1 E.2)=fR (L++[E]):=by
  have h3:∀ e∈L,e.1.id < E.1.id:=fun e he=>Int.lt_of_le_of_lt ((zZ h).2.2 e he) hl
  rw [AP (lkL_new h3),Am h3]
end Go.PK

namespace Go.PK
open Go Go.RowKit Go.Maps
section
variable {P:Program} {n:Nat} {l:List (Nat×Value)} {own:List (Nat×Obj)} {ro:List av} {lops:List Oper} {Q:Exit→Act→World→Prop} {K:Act→World→Prop}
  {rest:List (Option Bool×Nat)} {k:Option Bool} {i d:Nat} {t kt e ty:TypeId} {pos:String} {af:Array Edge} {m:Operand} {b r:Nat} {es:Array MapEntry} {clock:Nat}
theorem wo {w w1:World} {r:Nat} {o o':Obj} (h1:w1=w∨w1=w.drew) (h:w.heap[r]?=some o):Turned w (ChangeMaps.setBlock w1 r o') r o':=by
  rcases h1 with rfl | rfl
  · exact gy h
  · have:=gy (o':=o') h
    exact ⟨this.os,this.tape,this.output,this.size,this.at_,this.other⟩
theorem x_range (ho:lops[i]?=some ⟨some d,.range t m,ty,pos,af,none⟩) (hk:(k == some true)=false) (hd:decide (d < n)=true) (ht:P.underlying t=some (.map kt e)) (hm:ev l m=some (.map (some b))) (hb:oO own ro b es clock)
    (h:∀ r,WX P lops.toArray Q K rest n ((d,.pointer (some ⟨r,0,none⟩))::l) ((r,.mapIter (some b) clock #[] clock)::own) ro):WX P lops.toArray Q K ((k,i)::rest) n l own ro:=by
  intro a w ha hw
  refine nO (P:=P) (Q:=Q) (f:=fun r=>.pointer (some ⟨r,0,none⟩)) (ob:=.mapIter (some b) clock #[] clock) ho (bU rfl) rfl hk hd (fun a w ha hw=>?_) h a w ha hw
  simp only [execOp,ha.eval hm,Sem.run_bind,run_range_map w t kt e b es clock ht (hb w hw),Result.andThen_ok,Sem.run_pure]
theorem x_next {it:Operand} {c0:Nat} {seen:Array Nat} (l1:List (Nat×Obj)) {l2:List (Nat×Obj)} (ho:lops[i]?=some ⟨some d,.next it false,ty,pos,af,none⟩) (hd:decide (d < n)=true) (hi:ev l it=some (.pointer (some ⟨r,0,none⟩)))
    (hown:own=l1++(r,.mapIter (some b) clock seen c0)::l2) (hc:clock≤c0) (hb:oO own ro b es clock) (hold:∀ x∈es.toList,x.born < clock)
    (h0:(leftOf es seen).size=0→WX P lops.toArray Q K rest n ((d,.tuple #[.bool false])::l) own ro)
    (h1:∀ e∈(leftOf es seen).toList,WX P lops.toArray Q K rest n ((d,.tuple #[.bool true,e.key,e.val])::l) (l1++(r,.mapIter (some b) clock (seen.push e.born) clock)::l2) ro):WX P lops.toArray Q K ((none,i)::rest) n l own ro:=by
  subst hown
  intro a w ha hw
  have hw1:=bU (lops:=lops) (n:=n) (l:=l) (o:=⟨some d,.next it false,ty,pos,af,none⟩) rfl a ha
  simp only [hJ,List.getElem?_toArray,ho]
  intro w' hl
  rw [if_pos hw1]
  have hM:=hw.later hl
  have hr:w'.heap[r]?=some (.mapIter (some b) clock seen c0):=hM.own_at (r,_) (by simp)
  have hd':d < n:=of_decide_eq_true hd
  unfold Oper.wp
  rcases run_next_at (P:=P) w' ty r b clock c0 seen es clock hr (hb w' hM) hold hc with ⟨h2,h3⟩ | ⟨e,he,w1,h2,h3⟩
  · have hr2:(execOp a.eval ⟨some d,.next it false,ty,pos,af,none⟩).run P w'=.ok (.value (.tuple #[.bool false])) w':=by
      simp only [execOp,ha.eval hi,Sem.run_bind,h3,Result.andThen_ok,Sem.run_pure]
    rw [hr2]
    show hJ P lops.toArray Q K rest (a.put (some d) _) w'
    exact h0 h2 _ w' (ha.put _ hd') hM
  · have hr2:(execOp a.eval ⟨some d,.next it false,ty,pos,af,none⟩).run P w'=.ok (.value (.tuple #[.bool true,e.key,e.val])) (ChangeMaps.setBlock w1 r (.mapIter (some b) clock (seen.push e.born) clock)):=by
      simp only [execOp,ha.eval hi,Sem.run_bind,h3,Result.andThen_ok,Sem.run_pure]
    rw [hr2]
    show hJ P lops.toArray Q K rest (a.put (some d) _) _
    exact h1 e he _ _ (ha.put _ hd') (hM.turn (wo h2 hr))
theorem sX {it:Operand} {since:Nat} {seen:Array Nat} {x:MapEntry} (hi:ev l it=some (.pointer (some ⟨r,0,none⟩))) (hr:(r,Obj.mapIter (some b) since (seen.push x.born) clock)∈own) (hb:oO own ro b es clock) (hx:x∈es.toList) (hn:(es.toList.map (·.born)).Nodup) :
    cx P n l own ro (.entry it) ty (.tuple #[x.key,x.val]):=by
  intro A w o ha hw ho _
  simp only [execOp,ho,ha.eval hi,Sem.run_bind,run_entry_at w r b since seen es clock x (hw.own_at _ hr) (hb w hw) hx hn,Result.andThen_ok,Sem.run_pure]
end
structure Iter (es:Array MapEntry) (seen:Array Nat) (dn:List MapEntry):Prop where
  seen:seen.toList=dn.map (·.born)
  sub:∀ e∈dn,e∈es.toList
  nd:dn.Nodup
theorem Iter.nil {es:Array MapEntry}:Iter es #[] []:=⟨rfl,fun e h=>(by cases h),List.nodup_nil⟩
theorem uU {es:Array MapEntry} {seen:Array Nat} {e:MapEntry}:e∈(leftOf es seen).toList↔e∈es.toList∧e.born ∉ seen.toList:=by
  unfold leftOf
  simp [Array.mem_filter]
theorem Iter.push {es:Array MapEntry} {seen:Array Nat} {dn:List MapEntry} (h:Iter es seen dn) {e:MapEntry} (he:e∈(leftOf es seen).toList):Iter es (seen.push e.born) (dn++[e])∧e∈es.toList∧e ∉ dn:=by
  obtain ⟨h1,h2⟩:=uU.1 he
  have h3:e ∉ dn:=fun hm=>h2 (by rw [h.seen]; exact List.mem_map_of_mem hm)
  refine ⟨⟨by rw [Array.toList_push,h.seen,List.map_append]; rfl,fun x hx=>?_,?_⟩,h1,h3⟩
  · rcases List.mem_append.1 hx with hx | hx
    · exact h.sub x hx
    · rw [List.mem_singleton.1 hx]; exact h1
  · rw [List.nodup_append]
    exact ⟨h.nd,by simp,fun a ha b hb=>by rw [List.mem_singleton.1 hb]; exact fun q=>h3 (q▸ha)⟩
section
variable {P:Program} {kt:TypeId} {es:Array MapEntry} {ck:Nat} {f:Value→Option Value}
theorem MapC.bornLt (h:MapC P kt es ck f):∀ x∈es.toList,x.born < ck:=fun x hx=>by
  obtain ⟨j,hj,rfl⟩:=List.getElem_of_mem hx
  exact h.born j _ (by rw [← Array.getElem?_toList]; exact List.getElem?_eq_getElem hj)
theorem MapC.bornNd (h:MapC P kt es ck f):(es.toList.map (·.born)).Nodup:=by
  rw [List.nodup_iff_pairwise_ne,List.pairwise_map,List.pairwise_iff_getElem]
  intro i j hi hj hij he
  have:=h.once i j _ _ (by rw [← Array.getElem?_toList]; exact List.getElem?_eq_getElem hi) (by rw [← Array.getElem?_toList]; exact List.getElem?_eq_getElem hj) he
  omega
theorem MapC.nd (h:MapC P kt es ck f):es.toList.Nodup:=by
  have:=h.bornNd
  rw [List.nodup_iff_pairwise_ne,List.pairwise_map] at this
  rw [List.nodup_iff_pairwise_ne]
  exact this.imp fun hne he=>hne (by rw [he])
theorem MapC.entry (h:MapC P kt es ck f) {x:MapEntry} (hx:x∈es.toList):f x.key=some x.val:=by
  obtain ⟨j,hj,rfl⟩:=List.getElem_of_mem hx
  exact h.f.val j _ (by rw [← Array.getElem?_toList]; exact List.getElem?_eq_getElem hj)
theorem Iter.done (h:MapC P kt es ck f) {seen:Array Nat} {dn:List MapEntry} (hi:Iter es seen dn) (h0:(leftOf es seen).size=0):dn.Perm es.toList:=by
  rw [List.perm_ext_iff_of_nodup hi.nd h.nd]
  intro a
  refine ⟨hi.sub a,fun ha=>?_⟩
  have hl:(leftOf es seen).toList=[]:=by
    rw [← List.length_eq_zero_iff,Array.length_toList]; exact h0
  have h1:a ∉ (leftOf es seen).toList:=by rw [hl]; exact List.not_mem_nil
  rw [uU] at h1
  have h2:a.born∈seen.toList:=by
    by_cases hb:a.born∈seen.toList
    · exact hb
    · exact absurd ⟨ha,hb⟩ h1
  rw [hi.seen] at h2
  obtain ⟨x,hx,he⟩:=List.mem_map.1 h2
  have hxe:=hi.sub x hx
  have hnd:=h.bornNd
  rw [List.nodup_iff_pairwise_ne,List.pairwise_map,List.pairwise_iff_getElem] at hnd
  obtain ⟨i,hi',rfl⟩:=List.getElem_of_mem hxe
  obtain ⟨j,hj',rfl⟩:=List.getElem_of_mem ha
  rcases Nat.lt_trichotomy i j with hij | hij | hij
  · exact absurd he (hnd i j hi' hj' hij)
  · subst hij; exact hx
  · exact absurd he.symm (hnd j i hj' hi' hij)
open Classical in
theorem yh {α:Type}:∀ {a b:List α},a.Nodup→(∀ x∈a,x∈b)→a.length≤b.length
  | [],_,_,_=>Nat.zero_le _
  | x::l,b,hn,hs=>by
    obtain ⟨h1,h2⟩:=List.nodup_cons.1 hn
    have h3:=yh (b:=b.erase x) h2 fun y hy=>(List.mem_erase_of_ne (fun e:y=x=>h1 (e▸hy))).2 (hs y (.tail _ hy))
    have h4:=hs x (.head _)
    rw [List.length_erase_of_mem h4] at h3
    have:=List.length_pos_of_mem h4
    rw [List.length_cons]; omega
theorem Iter.len (h:MapC P kt es ck f) {seen:Array Nat} {dn:List MapEntry} (hi:Iter es seen dn):dn.length≤es.size:=by
  rw [← Array.length_toList]
  exact yh hi.nd hi.sub
theorem MapC.keyId (h:MapC P kt es ck f) {ids:List Int} (hk:fY f ids) {x:MapEntry} (hx:x∈es.toList):∃ id∈ids,x.key=.int .i64 id∧f (.int .i64 id)=some x.val:=by
  have h1:=h.entry hx
  obtain ⟨id,h2,h3⟩:=(hk.2 x.key).1 (by rw [h1]; rfl)
  exact ⟨id,h2,h3,by rw [← h3]; exact h1⟩
end
end Go.PK

namespace Go.PK
open Go Go.RowKit Go.Maps
section
variable {P:Program} {n:Nat} {l:List (Nat×Value)} {own:List (Nat×Obj)} {ro:List av} {ty:TypeId} {x y z:Operand} {k k' k'':IntKind} {a b c:Int}
theorem v_min3 {tys:Array TypeId} (hx:ev l x=some (.int k a)) (hy:ev l y=some (.int k' b)) (hz:ev l z=some (.int k'' c)):cx P n l own ro (.call ⟨.builtin .min,#[x,y,z],tys⟩) ty (.int k (min (min a b) c)):=by
  intro A w o ha _ ho _
  have e:(if b < a then b else a)=min a b:=by omega
  have e2:(if c < min a b then c else min a b)=min (min a b) c:=by omega
  simp [execOp,ho,resolve,invoke,builtin,ha.eval hx,ha.eval hy,ha.eval hz,Builtin.min_,Builtin.min2,e,e2]
end
theorem MapC.uniq {P:Program} {kt:TypeId} {es:Array MapEntry} {ck:Nat} {f:Value→Option Value} (h:MapC P kt es ck f) {x y:MapEntry} (hx:x∈es.toList) (hy:y∈es.toList) (he:x.key=y.key):x=y:=by
  obtain ⟨i,hi,rfl⟩:=List.getElem_of_mem hx
  obtain ⟨j,hj,rfl⟩:=List.getElem_of_mem hy
  have:=h.f.one i j _ _ (by rw [← Array.getElem?_toList]; exact List.getElem?_eq_getElem hi) (by rw [← Array.getElem?_toList]; exact List.getElem?_eq_getElem hj) he
  subst this; rfl
abbrev m3 (a b c:FSt) (p1 p2 p3:Nat) (B:Value):List FM:=[⟨⟨1,0,a⟩,p1,B⟩,⟨⟨2,1,b⟩,p2,.slice none 0 0⟩,⟨⟨3,1,c⟩,p3,.slice none 0 0⟩]
theorem m3_map {a b c:FSt} {p1 p2 p3:Nat} {B B':Value}:cC (m3 a b c p1 p2 p3 B)=cC (m3 a b c p1 p2 p3 B'):=by
  funext v
  cases v with
  | int k j =>
    cases k with
    | i64 =>
      show (iz _ _).map _=(iz _ _).map _
      simp only [m3,fj]
      repeat' (first | rfl | split)
    | _=>rfl
  | _=>rfl
theorem nH {a b c:FSt} {p1 p2 p3:Nat} {B:Value}:fY (cC (m3 a b c p1 p2 p3 B)) [1,2,3]:=uD (ms:=m3 a b c p1 p2 p3 B) (by simp)
def nl (dn:List MapEntry) (n:Int):Prop:=(n=3∧∃ e∈dn,e.key=.int .i64 1)∨(n=0∧∀ e∈dn,e.key≠.int .i64 1)
theorem nl.nil:nl [] 0:=.inr ⟨rfl,fun e h=>(by cases h)⟩
theorem nl.skip {dn:List MapEntry} {n:Int} (h:nl dn n) {e:MapEntry} (he:e.key≠.int .i64 1):nl (dn++[e]) n:=by
  rcases h with ⟨h1,x,hx,hk⟩ | ⟨h1,h2⟩
  · exact .inl ⟨h1,x,List.mem_append_left _ hx,hk⟩
  · refine .inr ⟨h1,fun x hx=>?_⟩
    rcases List.mem_append.1 hx with hx | hx
    · exact h2 x hx
    · rw [List.mem_singleton.1 hx]; exact he
theorem nl.take {P:Program} {kt:TypeId} {es:Array MapEntry} {ck:Nat} {f:Value→Option Value} (hC:MapC P kt es ck f) {seen:Array Nat} {dn:List MapEntry} {n:Int} (hi:Iter es seen dn) (h:nl dn n) {e:MapEntry} (he:e.key=.int .i64 1) (hm:e∈es.toList) (hn:e ∉ dn):n=0∧nl (dn++[e]) 3:=by
  refine ⟨?_,.inl ⟨rfl,e,List.mem_append_right _ (.head _),he⟩⟩
  rcases h with ⟨_,x,hx,hk⟩ | ⟨h1,_⟩
  · exact absurd (hC.uniq (hi.sub x hx) hm (hk.trans he.symm)▸hx) hn
  · exact h1
theorem nl.done {P:Program} {kt:TypeId} {es:Array MapEntry} {ck:Nat} {f:Value→Option Value} (hC:MapC P kt es ck f) {ids:List Int} (hk:fY f ids) (h1:1∈ids) {seen:Array Nat} {dn:List MapEntry} {n:Int} (hi:Iter es seen dn) (h:nl dn n) (h0:(leftOf es seen).size=0):n=3:=by
  rcases h with ⟨h,_⟩ | ⟨_,h2⟩
  · exact h
  · obtain ⟨e,he,hke⟩:=(hC.mem (.int .i64 1)).2 ((hk.2 _).2 ⟨1,h1,rfl⟩)
    exact absurd hke (h2 e ((hi.done hC h0).mem_iff.2 he))
theorem lkM_new {ms:List FM} {fs:List FG} {k:Nat} (hk:k < fs.length) (hs:uJ fs) (h:bW ms=fs.take k):iz ms fs[k].id=none:=by
  unfold iz
  rw [List.find?_eq_none]
  intro y hy
  have h1:y.g∈fs.take k:=by rw [← h]; exact List.mem_map_of_mem hy
  obtain ⟨j,hj,he⟩:=List.getElem_of_mem h1
  rw [List.getElem_take] at he
  rw [List.length_take] at hj
  have h2:=sV hs (i:=j) (j:=k) (by omega) hk (by omega)
  rw [he] at h2
  simp only [decide_eq_true_eq]
  omega
theorem m3_of {ms:List FM} {a b c:FSt} (h:bW ms=[⟨1,0,a⟩,⟨2,1,b⟩,⟨3,1,c⟩]) (hb:∀ y∈ms,y.bel=.slice none 0 0):∃ p1 p2 p3,ms=m3 a b c p1 p2 p3 (.slice none 0 0):=by
  unfold bW at h
  match ms,h,hb with
  | [⟨g1,p1,b1⟩,⟨g2,p2,b2⟩,⟨g3,p3,b3⟩],h,hb =>
    simp only [List.map_cons,List.map_nil,List.cons.injEq,and_true] at h
    obtain ⟨rfl,rfl,rfl⟩:=h
    have h1:b1=_:=hb _ (.head _)
    have h2:b2=_:=hb _ (.tail _ (.head _))
    have h3:b3=_:=hb _ (.tail _ (.tail _ (.head _)))
    subst h1 h2 h3
    exact ⟨p1,p2,p3,rfl⟩
theorem zq {P:Program} {kt:TypeId} {m:MO} {a b c:FSt} {p1 p2 p3:Nat} {B:Value} (h:mapIs P kt m (cC (m3 a b c p1 p2 p3 B))):∃ mF es ck,m=some (mF,es,ck)∧MapC P kt es ck (cC (m3 a b c p1 p2 p3 B)):=by
  obtain _ | ⟨mF,es,ck⟩:=m
  · have h:cC (m3 a b c p1 p2 p3 B)=fun _=>none:=h
    have:=congrFun h (.int .i64 1)
    cases this
  · exact ⟨mF,es,ck,rfl,h⟩
end Go.PK

namespace Go.PK
open Go
def smL (B:Nat) (l:List (List ByteArray)):Prop:=∀ y∈l,∀ t∈y,t.size≤B
theorem smL.last {B:Nat} {l:List (List ByteArray)} {t:ByteArray} (h:smL B l) (ht:t.size≤B):smL B (gi l t):=by
  unfold gi
  cases hl:l.getLast? with
  | none=>exact h
  | some y =>
    intro z hz u hu
    have hy:y∈l:=List.mem_of_getLast? hl
    rcases List.mem_append.1 hz with hz | hz
    · exact h z ((List.dropLast_sublist l).subset hz) u hu
    · rw [List.mem_singleton.1 hz] at hu
      rcases List.mem_append.1 hu with hu | hu
      · exact h y hy u hu
      · rw [List.mem_singleton.1 hu]; exact ht
theorem smL.new {B:Nat} {g:Sg} {c:UInt8} {l:List (List ByteArray)} (h:smL B l):smL B (jS g c l):=by
  unfold jS
  split
  · intro z hz u hu
    rcases List.mem_append.1 hz with hz | hz
    · exact h z hz u hu
    · rw [List.mem_singleton.1 hz] at hu; cases hu
  · exact h
theorem elF_sm (s:ByteArray) (g:Sg):∀ (f:Nat) (c:UInt8) (a:Nat) (out:List (List ByteArray)) {l:List (List ByteArray)} {a':Nat},smL s.size out→yv s g f c a out=some (l,a')→smL s.size l
  | 0,_,_,_,_,_,_,h=>by simp [yv] at h
  | f+1,c,a,out,l,a',ho,h=>by
    rw [yv] at h
    split at h
    · simp only [Option.some.injEq,Prod.mk.injEq] at h
      obtain ⟨rfl,_⟩:=h
      exact ho
    · cases hp:cH s g a [] with
      | none=>rw [hp] at h; cases h
      | some x =>
        obtain ⟨t,c',b⟩:=x
        rw [hp] at h
        obtain ⟨h1,h2,h3,_⟩:=iJ hp
        exact elF_sm s g f c' b _ (ho.new.last (by show t.toArray.size≤_; rw [List.size_toArray]; simp only [List.length_nil] at h3; omega)) h
theorem sY (s:ByteArray) (g:Sg):∀ (f a:Nat) (out:List Seg),(∀ x∈out,smL s.size x.els)→∀ x∈(rK s g f a out).1,smL s.size x.els
  | 0,_,out,h=>h
  | f+1,a,out,h=>by
    rw [rK]
    split
    · split
      · intro x hx; cases hx
      · split
        · intro x hx; cases hx
        · cases hp:ja s g (ad s (cX s g (bI s a)).2) ((cX s g (bI s a)).2+1) [] with
          | none=>intro x hx; cases hx
          | some y =>
            obtain ⟨l,a'⟩:=y
            refine sY s g f a' _ fun x hx=>?_
            rcases List.mem_append.1 hx with hx | hx
            · exact h x hx
            · rw [List.mem_singleton.1 hx]
              exact elF_sm s g _ _ _ _ (fun y hy=>by cases hy) hp
    · exact h
theorem par_sm (s:ByteArray):∀ x∈(aK s).1,smL s.size x.els:=by
  unfold aK lG
  split
  · split
    · intro x hx; cases hx
    · split
      · exact sY s _ _ _ _ fun x hx=>by cases hx
      · intro x hx; cases hx
  · exact sY s _ _ _ _ fun x hx=>by cases hx
theorem uV {s:ByteArray} (h:s.size≤2000000000):bigN (aK s).1:=fun x hx y hy t ht=>Nat.le_trans (par_sm s x hx y hy t ht) h
end Go.PK

namespace Go.PK
open Go
open Classical in
theorem Ak {a b:List (Nat×Obj)} (h:∀ p:(Nat×Obj)→Bool,a.countP p=b.countP p):a.Perm b:=List.perm_iff_count.2 fun _=>h _
end Go.PK

namespace Go.PK
open Go
def ce (p n:Int):Int:=if n%6=0∨n%6=1 then p else if n%6=2 then p+p / 20 else if n%6=3 then max (p - p / 20) 0 else if n%6=4 then p+p / 20+1 else max (p - n%90) 0
theorem pC {p:Int} (h:0≤p) (n:Int):0≤ce p n∧ce p n≤2*p+1:=by
  have:0≤n%90:=Int.emod_nonneg n (by decide)
  unfold ce
  repeat' split
  all_goals omega
def midO (x:Ord):Prop:=(0≤x.id∧x.id≤10)∧(0≤x.fund∧x.fund≤10)∧(0≤x.src∧x.src≤10)∧(0≤x.num∧x.num≤10)∧(1≤x.copies∧x.copies≤100)∧(0≤x.price∧x.price≤100000000)
theorem zE {l:List Seg} (hn:l.length≤60) (h:∀ x∈l,kL x):(⟨(fX l).toArray⟩:ByteArray).size≤150000000:=by
  have:=vJ l h
  show (List.toArray _).size≤_
  rw [List.size_toArray]; omega
theorem inv_size {ls:List Ord} (hn:ls.length≤10) (h:∀ o∈ls,ej (pf o)):(⟨(fX (bH ls)).toArray⟩:ByteArray).size≤150000000:=by
  refine zE (by rw [fP]; split <;> omega) ?_
  by_cases hp:dB ls
  · exact uM hp hn
  · unfold bH; rw [if_neg hp]; exact fun x hx=>by cases hx
theorem lm (x:Ord):u6 (aU x)=(⟨(fX (aU x)).toArray⟩,0)∧(⟨(fX (aU x)).toArray⟩:ByteArray).size≤150000000:=by
  have hn:(aU x).length≤60:=Nat.le_trans (by unfold aU; split <;> simp [eF]) (by decide:7≤60)
  have hf:∀ s∈aU x,kL s:=by
    by_cases h:bV x=true
    · exact oQ h
    · intro s hs
      unfold aU at hs
      rw [if_neg (by simpa using h)] at hs
      cases hs
  exact ⟨(iU hn hf).1,zE hn hf⟩
theorem rl {ls:List Ord} {t:ByteArray} (h:∀ o∈ls,ej (pf o)) (hn:ls.length≤10) (ht:t.size≤100):∀ x∈bo ls t,kL x:=by
  have key:∀ x∈bo ls t,(∀ y∈x.els,∀ s∈y,s.size≤100)∧cr x=true∧x.tag≠lM:=by
    intro x hx
    unfold bo at hx
    rcases List.mem_append.1 hx with hx | hx
    · rcases List.mem_append.1 hx with hx | hx
      · have hh:∀ x∈dF,(∀ y∈x.els,∀ s∈y,s.size≤100)∧cr x=true∧x.tag≠lM:=by
          unfold dF
          simp only [List.forall_mem_cons,List.not_mem_nil,false_imp_iff,implies_true,and_true]
          repeat' apply And.intro
          all_goals first | decide | omega | rfl
        exact hh x hx
      · obtain ⟨o,ho,k,hk,hx⟩:=li hx
        obtain ⟨⟨a1,a2⟩,_,⟨c1,c2⟩,⟨d1,d2⟩,⟨e1,e2⟩,⟨f1,f2⟩⟩:=h o ho
        have a1:1≤o.id:=a1; have a2:o.id≤999999999:=a2; have c1:0≤o.src:=c1; have c2:o.src≤999999999:=c2; have d1:0≤o.num:=d1; have d2:o.num≤999999999:=d2
        have e1:0≤o.price:=e1; have e2:o.price≤999999999:=e2; have f1:1≤o.copies:=f1; have f2:o.copies≤9999:=f2
        have k1:=dA (show 0≤o.id by omega) a2
        have k3:=dA (show 0≤o.copies by omega) (show o.copies≤999999999 by omega)
        have k4:=dA e1 e2
        have k5:=qN c1 c2 d1 d2
        have k6:(ai ((k+1:Nat):Int)).size≤9:=dA (by omega) (by omega)
        have hh:∀ x∈ei k o,(∀ y∈x.els,∀ s∈y,s.size≤100)∧cr x=true∧x.tag≠lM:=by
          unfold ei
          simp only [List.forall_mem_cons,List.not_mem_nil,false_imp_iff,implies_true,and_true]
          repeat' apply And.intro
          all_goals first | decide | omega | rfl
        exact hh x hx
    · have k8:(ai ((4*ls.length+5:Nat):Int)).size≤9:=dA (by omega) (by omega)
      have hh:∀ x∈fa ls.length t,(∀ y∈x.els,∀ s∈y,s.size≤100)∧cr x=true∧x.tag≠lM:=by
        unfold fa
        simp only [List.forall_mem_cons,List.not_mem_nil,false_imp_iff,implies_true,and_true]
        repeat' apply And.intro
        all_goals first | decide | omega | rfl
      exact hh x hx
  have hfew:∀ x∈bo ls t,kX x:=fun x hx=>by
    unfold bo at hx
    rcases List.mem_append.1 hx with hx | hx
    · rcases List.mem_append.1 hx with hx | hx
      · have hh:∀ x∈dF,kX x:=by
          unfold dF kX
          simp only [List.forall_mem_cons,List.not_mem_nil,false_imp_iff,implies_true,and_true,List.length_cons,List.length_nil]
          decide
        exact hh x hx
      · exact kY ls 0 x hx
    · have hh:∀ x∈fa ls.length t,kX x:=by
        unfold fa kX
        simp only [List.forall_mem_cons,List.not_mem_nil,false_imp_iff,implies_true,and_true,List.length_cons,List.length_nil]
        decide
      exact hh x hx
  exact fun x hx=>⟨(key x hx).2.1,(key x hx).2.2,hfew x hx,(key x hx).1⟩
theorem rm {ls:List Ord} {t:ByteArray} (h:∀ o∈ls,ej (pf o)) (hn:ls.length≤10) (ht:t.size≤100):u6 (bo ls t)=(⟨(fX (bo ls t)).toArray⟩,0)∧(⟨(fX (bo ls t)).toArray⟩:ByteArray).size≤150000000:=by
  have hl:(bo ls t).length≤60:=by rw [cP]; omega
  exact ⟨(iU hl (rl h hn ht)).1,zE hl (rl h hn ht)⟩
def lnM (x:Ord):Prop:=x.okA∧(1≤x.id∧x.id≤10)∧(0≤x.src∧x.src≤10)∧(0≤x.num∧x.num≤10)∧(1≤x.copies∧x.copies≤9999)∧(0≤x.price∧x.price≤100000000)
def lnK (x:Ord):Prop:=x.okA∧ej (pf x)
theorem tdiv3_b {c:Int} (h:aj c):-4611686018427387904≤c.tdiv 3∧c.tdiv 3≤4611686018427387904:=by
  unfold aj at h
  rcases Int.le_total 0 c with h0 | h0
  · rw [Int.tdiv_eq_ediv_of_nonneg h0]; omega
  · have e:c.tdiv 3=-((-c).tdiv 3):=by rw [Int.neg_tdiv]; omega
    rw [e,Int.tdiv_eq_ediv_of_nonneg (by omega)]; omega
theorem wt {xs:List Ord} {x:Ord}:po (xs++[x])=po xs++x.cells:=by
  unfold po; simp
theorem yj {es:List EN} {id:Int} (h:0≤sU es id):∃ k,∃ hk:k < es.length,sU es id=(k:Nat):=by
  cases hl:cq es id with
  | none=>rw [gZ hl] at h; omega
  | some e=>obtain ⟨k,hk,h1,_⟩:=gY hl; exact ⟨k,hk,h1⟩
structure Ac4 where
  (k a b c:Int)
def Ac4.cells (x:Ac4):List Value:=[Value.int .i64 x.k,.int .i64 x.a,.int .i64 x.b,.int .i64 x.c]
def Ac4.ok (x:Ac4):Prop:=aj x.k∧aj x.a∧aj x.b∧aj x.c
def rn:Ty Ac4 where
  size:=4
  rd:=fun _ _ cs o=>cs=o.cells∧o.ok
  len:=fun h=>by rw [h.1]; rfl
  keep:=fun h _=>h
theorem wu {D:Nat→Prop} {w:World} {A:Option Addr} {l c:Nat} {xs:List Ac4} (h:ab rn D w (.slice A l c) xs) {k:Nat} (hk:k < xs.length) :
    ∃ b off,A=some ⟨b,off,none⟩∧D b∧(∀ i (hi:i < 4),w.cell? ⟨b,off+k*4+i,none⟩=some (xs[k].cells[i]'hi))∧xs[k].ok:=by
  obtain ⟨A',c',e,h1,h2,h3⟩:=h
  injection e with e1 e2 e3
  subst e1 e2 e3
  obtain ⟨b,off,rfl,hD,hb,hc⟩:=h3 (by omega)
  obtain ⟨cs,hcs,rfl,hok⟩:=hc k hk
  exact ⟨b,off,rfl,hD,fun i hi=>hcs i hi,hok⟩
end Go.PK

namespace Go.PK
open Go Go.RowKit
section
variable {P:Program} {n:Nat} {l:List (Nat×Value)} {own:List (Nat×Obj)} {ro:List av} {lops:List Oper} {Q:Exit→Act→World→Prop} {K:Act→World→Prop}
  {rest:List (Option Bool×Nat)} {k:Option Bool} {i d:Nat} {op:Op} {ty:TypeId} {pos:String} {af:Array Edge}
theorem kM {j dj:Nat} {want:Bool} (ho:lops[i]?=some ⟨some d,op,ty,pos,af,some (j,want)⟩) (hj:(lops[j]?).bind (·.dst)=some dj) (hb:l.lookup dj=some undef) (hd:decide (d < n)=true)
    (h:WX P lops.toArray Q K rest n ((d,undef)::l) own ro):WX P lops.toArray Q K ((k,i)::rest) n l own ro :=
  zX ho (fun a ha=>by simp only [Region.wanted,yielded,List.getElem?_toArray,hj,Option.bind_some,ha.at_ _ _ hb]; rfl) rfl hd h
end
end Go.PK

namespace Go.PK
open Go Go.RowKit
section
variable {P:Program} {n:Nat} {l:List (Nat×Value)} {own oF:List (Nat×Obj)} {ro:List av} {lops:List Oper} {Q:Exit→Act→World→Prop} {K:Act→World→Prop} {rest:List (Option Bool×Nat)} {i d j dj:Nat} {want:Bool} {t e:Pl} {op:Op} {ty:TypeId} {pos:String} {af:Array Edge}
end
end Go.PK

namespace Go.PK
open Go Go.RowKit
section
variable {P:Program} {n:Nat} {l:List (Nat×Value)} {own oF:List (Nat×Obj)} {ro rF:List av} {lops:List Oper} {Q:Exit→Act→World→Prop} {K:Act→World→Prop} {i d:Nat} {t e:Pl} {op:Op} {ty:TypeId} {pos:String} {af:Array Edge}
theorem k_run {o:Oper} (ho:lops[i]?=some o) (hgo:Go_ lops n l o) (hd0:o.dst=some d) (hd:decide (d < n)=true) {v:Value} (hv:cx P n l oF rF o.op o.type v)
    (h:S (gu P lops.toArray oF rF K t) n ((d,v)::l) own ro):S (gu P lops.toArray oF rF K (.flt i t)) n l own ro:=fun a w ha hw=>by
  have hd':d < n:=of_decide_eq_true hd
  unfold gu
  simp only [List.getElem?_toArray,ho]
  rw [if_pos (hgo a ha)]
  refine ⟨v,fun w' hw'=>?_,by rw [hd0]; exact h _ w (ha.put v hd') hw⟩
  unfold fZ
  rw [hv a w' _ ha hw' rfl rfl]
  exact ⟨rfl,rfl⟩
theorem g9 (ho:lops[i]?=some ⟨some d,op,ty,pos,af,none⟩) (hd:decide (d < n)=true) {v:Value} (hv:cx P n l oF rF op ty v)
    (h:S (gu P lops.toArray oF rF K t) n ((d,v)::l) own ro):S (gu P lops.toArray oF rF K (.flt i t)) n l own ro:=k_run ho (bU rfl) rfl hd hv h
theorem k_gr (h:WX P lops.toArray (fun _ _ _=>False) (fun a w=>Mem w oF rF∧gu P lops.toArray oF rF K t a w) [(none,i)] n l own ro) (he:S (gu P lops.toArray oF rF K e) n l own ro):S (gu P lops.toArray oF rF K (.gr i t e)) n l own ro:=fun a w ha hw=>by
  have h:=h a w ha hw
  unfold gu
  refine ⟨?_,he a w ha hw⟩
  simp only [hJ] at h
  split <;> rename_i ho <;> simp only [ho] at h
  split <;> rename_i hw'
  · intro w2 h2
    have h:=h w2 h2
    rw [if_pos hw'] at h
    exact Oper.wp_mono (fun a' w' hk=>hk w' (Later.refl _)) h
  · have h:=h w (Later.refl _)
    rw [if_neg hw'] at h
    exact (h w (Later.refl _)).2
theorem k_end (hsub:oF.Sublist own) (hro:∀ s∈rF,s∈ro) (h:S (gu P lops.toArray oF rF K t) n l own ro):S (fun a w=>Mem w oF rF∧gu P lops.toArray oF rF K t a w) n l own ro:=fun a w ha hw=>⟨hw.less hsub hro,h a w ha hw⟩
theorem k_nil:S (gu P lops.toArray oF rF K .nil) n l own ro:=fun _ _ _ _=>trivial
theorem Ax {m:Nat} (h:WX P lops.toArray Q (fun a w=>Q .normal a w) (dX m lops.length) n l own ro) :
    S (gu P lops.toArray oF rF (fun a' w'=>∀ w'',Later w' w''→wpList P lops.toArray Q (lops.drop m) a' w'') .done) n l own ro :=
  fun a w ha hw w2 h2=>dW _ m a w2 rfl (j7 h2 (h a w ha hw))
end
end Go.PK

namespace Go.PK
open Go
theorem Bb {e:EN} (h:pJ e) (hb:kC e.1) (hn:dm e.1):s8 e:=by
  unfold pJ at h
  unfold kC at hb
  unfold dm at hn
  unfold s8 ej
  dsimp only
  refine ⟨by omega,by omega,?_⟩
  split <;> omega
theorem DOK.right {m:Int} {s:SG} (h:DOK m s):∀ e∈s.L,s8 e:=fun e he=>Bb (h.sm e he) (h.inv.bal e he) (h.inv.ok.L e he).1
theorem rightO_N {e:EN} (h:s8 e):xC e:=by
  obtain ⟨h1,h2,h3⟩:=h
  unfold ej at h1
  dsimp only at h1
  unfold xC dm
  split at h3 <;> omega
theorem zW {l:List Int}:∀ k,10*k≤l.length→jG ((List.range k).map fun j=>s9 l (10*j))=l.take (10*k)
  | 0,_=>rfl
  | k+1,h=>by
    have e:jG [s9 l (10*k)]=Ai (s9 l (10*k)):=by show Ai _++[]=_; rw [List.append_nil]
    rw [List.range_succ,List.map_append,jG,List.flatMap_append]
    show jG _++jG [s9 l (10*k)]=_
    rw [zW k (by omega),e,show 10*(k+1)=10*k+10 by omega,List.take_add]
    congr 1
    apply List.ext_getElem
    · rw [List.length_take,List.length_drop]; show 10=_; omega
    · intro j h1 h2
      have hj:j < 10:=h1
      rw [List.getElem_take,List.getElem_drop]
      unfold Ai s9
      match j,hj with
      | 0,_=>exact xA _
      | 1,_=>exact xA _
      | 2,_=>exact xA _
      | 3,_=>exact xA _
      | 4,_=>exact xA _
      | 5,_=>exact xA _
      | 6,_=>exact xA _
      | 7,_=>exact xA _
      | 8,_=>exact xA _
      | 9,_=>exact xA _
theorem AA {s:ByteArray} {L:List EN} (h:xb s=some L):(⟨(cF (jG L)).toArray⟩:ByteArray)=s∧lc L∧L.length≤5000∧∀ e∈L,xC e:=by
  unfold xb at h
  split at h
  · cases h
  · rename_i hc
    obtain ⟨h1,h2,h3⟩:(zv s).2=0∧(zv s).1.length%10=0∧(zv s).1.length≤50000:=⟨Decidable.of_not_not fun q=>hc (.inl q),by omega,by omega⟩
    obtain ⟨q1,q2,q3⟩:=zZ h
    have hb:=(riq_back (s:=s) (xs:=(zv s).1) (by rw [← h1])).1
    refine ⟨?_,q1,by rw [zC h]; omega,fun e he=>rightO_N (q2 e he)⟩
    rw [Ay h,zW _ (by omega),List.take_of_length_le (by omega)]
    exact mE (by rw [mY]; exact hb.symm)
theorem zO {l:List Int} (hl:l.length≤100000) (h:∀ n∈l,aj n):0 < (⟨(cF l).toArray⟩:ByteArray).size∧(⟨(cF l).toArray⟩:ByteArray).size≤l.length*10+10:=by
  have h1:∀ (l:List Int),(∀ n∈l,aj n)→(l.flatMap fun n=>bC (ko n)).length≤l.length*10:=by
    intro l
    induction l with
    | nil=>intro _; exact Nat.le_refl _
    | cons n t ih =>
      intro h
      have h2:=ih fun m hm=>h m (.tail _ hm)
      have h3:=h n (.head _)
      have h4:(bC (ko n)).length≤10:=dL (by unfold aj at h3; unfold ko; split <;> omega)
      rw [List.flatMap_cons,List.length_append,List.length_cons]
      omega
  have h2:=h1 l h
  have h3:(bC l.length).length≤10:=dL (by omega)
  have h4:=lT l.length
  show 0 < (cF l).toArray.size∧(cF l).toArray.size≤_
  rw [List.size_toArray]
  unfold cF
  rw [List.length_append]
  omega
end Go.PK

namespace Go.PK
open Go Go.RowKit
theorem set_tk {α:Type} {cs:List α} {k:Nat} {v:α} (hk:k < cs.length):cs.take k++[v]++cs.drop (k+1)=cs.set k v:=by
  rw [List.set_eq_take_append_cons_drop,if_pos hk,List.append_assoc]; rfl
theorem row_set {n b c k:Nat} {cs:List Value} {xs:List Int} {v:Int} (h:ag 1 (some (b,cs,c)) n (xs.map (Value.int .i64))) (hk:k < n):ag 1 (some (b,cs.take k++(Value.int .i64 v).cells.toList++cs.drop (k+1),c)) n ((xs.set k v).map (Value.int .i64)):=by
  obtain ⟨h1,h2,h3,h4,h5⟩:=h
  dsimp only at h2 h3 h4 h5
  have e:cs.take k++(Value.int .i64 v).cells.toList++cs.drop (k+1)=cs.set k (.int .i64 v):=set_tk (by omega)
  refine ⟨by rw [List.length_map,List.length_set]; simpa using h1,h2,h3,?_,?_⟩
  · dsimp only; rw [e,List.length_set]; exact h4
  · dsimp only; rw [e,List.take_set,h5,List.map_set]
theorem byC_put {cs:List Value} {bs:List UInt8} {n j:Nat} {c:UInt8} (h:cs.take n=ea bs) (hn:n≤cs.length) (hj:j < n):(cs.take j++(Value.int .u8 (c.toNat:Nat)).cells.toList++cs.drop (j+1)).take n=ea (bs.set j c):=by
  have e:cs.take j++(Value.int .u8 (c.toNat:Nat)).cells.toList++cs.drop (j+1)=cs.set j (.int .u8 (c.toNat:Nat)):=set_tk (by omega)
  rw [e,List.take_set,h]
  unfold ea
  rw [List.map_set]
theorem byC_cell {cs:List Value} {bs:List UInt8} {n:Nat} (h:cs.take n=ea bs) (hn:n=bs.length) {j:Nat} (hj:j < bs.length):cs[j]?=some (.int .u8 bs[j].toNat):=by
  have h1:=rE hj
  rw [← h,List.getElem?_take,if_pos (by omega)] at h1
  exact h1
theorem encL_bd {L:List EN} (h:∀ e∈L,xC e):∀ n∈jG L,-1≤n∧n≤999999999:=fun n hn=>by
  obtain ⟨e,he,h1⟩:=List.mem_flatMap.1 hn
  obtain ⟨h2,h3⟩:=h e he
  unfold dm at h2
  unfold Ai at h1
  simp only [List.mem_cons,List.not_mem_nil,or_false] at h1
  rcases h1 with h1 | h1 | h1 | h1 | h1 | h1 | h1 | h1 | h1 | h1 <;> omega
theorem AB {xs:List Int} {k:Nat} {v:Int} (h:∀ n∈xs,aj n) (hv:aj v):∀ n∈xs.set k v,aj n:=fun n hn=>by
  rcases List.mem_or_eq_of_mem_set hn with h1 | h1
  · exact h n h1
  · rw [h1]; exact hv
section
variable {P:Program} {n:Nat} {l:List (Nat×Value)} {own:List (Nat×Obj)} {ro:List av} {lops:List Oper} {Q:Exit→Act→World→Prop} {K:Act→World→Prop}
  {rest:List (Option Bool×Nat)} {k:Option Bool} {i d:Nat} {ty t t':TypeId} {pos:String} {af:Array Edge} {x y:Operand} {b off:Nat}
theorem x_bytesT {e:TypeId} {s:ByteArray} {u:TypeDesc} (ho:lops[i]?=some ⟨some d,.convert t t' x,ty,pos,af,none⟩) (hd:decide (d < n)=true)
    (hs:P.underlying t=some u) (hd2:P.underlying t'=some (.slice e)) (he:P.underlying e=some (.int .u8)) (hx:ev l x=some (.string s))
    (h:∀ b cp (cs:List Value),s.size≤cp→s.size≤cs.length→cs.take s.size=ea s.data.toList→WX P lops.toArray Q K rest n ((d,.slice (some ⟨b,0,none⟩) s.size cp)::l) ((b,.cells cs.toArray e (cs.length,cs.length+1))::own) ro):WX P lops.toArray Q K ((none,i)::rest) n l own ro:=by
  intro a w ha hw
  have hd':d < n:=of_decide_eq_true hd
  have hw1:=bU (lops:=lops) (n:=n) (l:=l) (o:=⟨some d,.convert t t' x,ty,pos,af,none⟩) rfl a ha
  simp only [hJ,List.getElem?_toArray,ho]
  have hlat:∀ w',Later w' (Lib.bytesWorld w' e s):=fun w'=>⟨rfl,rfl,rfl,by rw [Lib.bytesWorld_size]; omega,fun j hj=>Lib.bytesWorld_at_old w' e s j hj⟩
  have hrun:∀ w',(execOp a.eval ⟨some d,.convert t t' x,ty,pos,af,none⟩).run P w'=.ok (.value (.slice (some ⟨w'.heap.size,0,none⟩) s.size (grownCap w' s.size 0 e))) (Lib.bytesWorld w' e s):=fun w'=>by
    simp [execOp,ha.eval hx,Lib.run_convert_string_bytes w' t t' e s hs hd2 he]
  intro w' hl
  rw [if_pos hw1]
  unfold Oper.wp
  rw [hrun]
  have hM:=hw.later hl
  have htk:(Lib.bytesCells w' e s).toList.take s.size=ea s.data.toList:=by
    unfold Lib.bytesCells ea
    have:(s.data.map fun b=>Value.int .u8 b.toNat).toList.length=s.size:=by simp
    rw [Array.toList_append,← this,List.take_left]
    simp
  have hlen:s.size≤(Lib.bytesCells w' e s).toList.length:=by
    have h1:=congrArg List.length htk
    rw [rD,List.length_take] at h1
    have h2:s.data.toList.length=s.size:=by simp
    omega
  refine h _ _ (Lib.bytesCells w' e s).toList (grownCap_ge _ _ _ _) hlen htk _ _ (ha.put _ hd') ?_
  have hl2:=hlat w'
  have h2:=hM.later hl2
  refine ⟨fun p hp=>?_,?_,h2.ro_st,h2.ro_at,fun p hp s' hs' hdd=>?_⟩
  · rcases List.mem_cons.1 hp with rfl | hp
    · simpa using Lib.bytesWorld_at_new w' e s
    · exact h2.own_at p hp
  · simp only [List.map_cons,List.nodup_cons]
    refine ⟨fun hm=>?_,h2.own_nd⟩
    obtain ⟨p,hp,he'⟩:=List.mem_map.1 hm
    have:=hM.lt hp
    omega
  · rcases List.mem_cons.1 hp with rfl | hp
    · exact (hM.ro_st s' hs').2.2.2
    · exact h2.apart p hp s' hs' hdd
end
end Go.PK

namespace Go.PK
open Go Go.ChangeShapes Go.WideShapes Go.ChangeAt Go.RowKit
structure Meas (H:Type) where
  f:DataW H→Nat
  all:List (DataW H)→Nat
  str:∀ bs,f (.lit (.string bs))=bs.length+1
  slice:∀ es sp,f (.slice es sp)=all es+all sp+1
  agg:∀ ps,f (.agg ps)=all ps+1
  cons:∀ d r,all (d::r)=f d+all r
  one:∀ d,1≤f d
theorem Meas.mem_le {H:Type} (M:Meas H):∀ {l:List (DataW H)} {d:DataW H},d∈l→M.f d≤M.all l
  | x::r,d,h=>by
    rw [M.cons]
    rcases List.mem_cons.1 h with rfl | h
    · omega
    · have:=M.mem_le h; omega
theorem Meas.len_le {H:Type} (M:Meas H):∀ (l:List (DataW H)),l.length≤M.all l
  | []=>Nat.zero_le _
  | x::r=>by
    rw [M.cons,List.length_cons]
    have h1:=M.len_le r
    have h2:=M.one x
    omega
structure RdrN {α:Type} (P:Program) (t:TypeId) (T:Ty α) (N:Nat):Prop where
  size:P.cellsOf t=T.size
  pos:0 < T.size
  rd:∀ {H:Type} {enc:TypeId×Value→H} {w:World} {base:Nat} {sp:Nat→Bool} {held:Bool} {fuel:Nat} {cs:List Value} {x:DataW H×List MemPlace} (M:Meas H),M.f x.1≤N→DataW.trod enc P w base sp held fuel t cs=some x→∃ y,T.rd (fun _=>True) w cs y
theorem Rdr.N {α:Type} {P:Program} {t:TypeId} {T:Ty α} {N:Nat} (R:Rdr P t T):RdrN P t T N:=⟨R.size,R.pos,fun _ _ h=>R.rd h⟩
section
variable {P:Program} {H:Type} {enc:TypeId×Value→H}
end
section
variable {H:Type} {enc:TypeId×Value→H} {P:Program} {W:World} {base b0:Nat} {sp:Nat→Bool} {held:Bool} {r:Reach} {t e:TypeId} {v:Value} {d:DataW H} {ps:List MemPlace}
theorem top_strN {N:Nat} (ht:P.underlying t=some .string) (M:Meas H) (hM:M.f d≤N) (hval:Value.okWide P W r b0 t v) (h:DataW.Trod enc P W base sp held t v d ps):∃ s,v=.string s∧s.size≤N:=by
  obtain ⟨n,hn⟩:=h
  obtain ⟨s,hs,hx,hw⟩:=DataW.trod_string ht hn
  have:v=.string s:=by
    cases v <;> simp_all [Value.okWide,Cell.okWide,Cell.ok,Value.cells]
  subst this
  have hx:d=.lit (.string s.data.toList):=congrArg Prod.fst hx
  subst hx
  rw [M.str] at hM
  have e:s.data.toList.length=s.size:=by rw [Array.length_toList]; rfl
  exact ⟨s,rfl,by omega⟩
theorem ab.each {α:Type} {T:Ty α} {D:Nat→Prop} {v:Value} {xs:List α} {w:World} (h:ab T D w v xs) {Q:α→Prop} (hT:∀ cs x,T.rd D w cs x→Q x):∀ x∈xs,Q x:=by
  intro x hx
  obtain ⟨A,c,h1,h2,h3,h4⟩:=h
  obtain ⟨b,off,e,hD,hb,hc⟩:=h4 (List.length_pos_of_mem hx)
  obtain ⟨j,hj,rfl⟩:=List.getElem_of_mem hx
  obtain ⟨cs,k1,k2⟩:=hc j hj
  exact hT _ _ k2
end
end Go.PK

namespace Go.PK
open Go Go.RowKit
theorem rdr_conv {α β:Type} {P:Program} {t:TypeId} {U:Ty β} {T:Ty α} (hs:U.size=T.size) (f:∀ w cs y,U.rd (fun _=>True) w cs y→∃ z,T.rd (fun _=>True) w cs z) (R:Rdr P t U):Rdr P t T :=
  ⟨by rw [R.size,hs],by rw [← hs]; exact R.pos,fun h=>by obtain ⟨y,hy⟩:=R.rd h; exact f _ _ y hy⟩
end Go.PK

namespace Go.PK
open Go Go.RowKit
abbrev tyAc4U:Ty (Int×Int×Int×Int×Unit):=jP i8 (jP i8 (jP i8 (jP i8 wF)))
theorem ac4_conv (w:World) (cs:List Value) (y:Int×Int×Int×Int×Unit) (h:tyAc4U.rd (fun _=>True) w cs y):∃ o:Ac4,rn.rd (fun _=>True) w cs o:=by
  obtain ⟨y1,y2,y3,y4,_⟩:=y
  obtain ⟨_,_,rfl,⟨e1,k1⟩,_,_,rfl,⟨e2,k2⟩,_,_,rfl,⟨e3,k3⟩,_,_,rfl,⟨e4,k4⟩,e4'⟩:=h
  dsimp only at e1 e2 e3 e4 k1 k2 k3 k4
  have e4':_=[]:=e4'
  refine ⟨⟨y1,y2,y3,y4⟩,?_,k1,k2,k3,k4⟩
  rw [e1,e2,e3,e4,e4']; rfl
end Go.PK
