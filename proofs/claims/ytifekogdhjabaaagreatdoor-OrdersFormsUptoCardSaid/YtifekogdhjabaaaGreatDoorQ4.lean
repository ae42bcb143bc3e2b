/- Of the proofs of YtifekogdhjabaaaGreatDoor: Facts Wa Wb, put together. -/
import Derived.Test.YtifekogdhjabaaaGreatDoorRows
import Derived.Test.YtifekogdhjabaaaGreatDoorQ1
import Derived.Test.YtifekogdhjabaaaGreatDoorQ2
import Derived.Test.YtifekogdhjabaaaGreatDoorQ3
set_option linter.unusedVariables false
set_option linter.unusedSimpArgs false
set_option maxRecDepth 100000
set_option maxHeartbeats 4000000

namespace Go.Proofs.YtifekogdhjabaaaGreatDoor
theorem cT:(Tryz.prog.info? 3).map (·.size)=some 1:=by kernel_rfl
theorem rP:(Tryz.prog.info? 3).bind (·.zero)=some (.int .i64 0):=by kernel_rfl
theorem lq:(Tryz.prog.info? 5).map (·.size)=some 1:=by kernel_rfl
theorem vk:(Tryz.prog.info? 5).bind (·.zero)=some (.int .u8 0):=by kernel_rfl
theorem gG:(Tryz.prog.info? 9).map (·.size)=some 1:=by kernel_rfl
theorem kA:(Tryz.prog.info? 9).bind (·.zero)=some (.string ⟨#[]⟩):=by kernel_rfl
theorem iL:(Tryz.prog.info? 23).map (·.size)=some 2:=by kernel_rfl
theorem pV:(Tryz.prog.info? 23).bind (·.zero)=some (.agg #[.int .i64 0,.int .i64 0]):=by kernel_rfl
theorem cm:(Tryz.prog.info? 25).map (·.size)=some 9:=by kernel_rfl
theorem gI:(Tryz.prog.info? 25).bind (·.zero)=some (.agg #[.int .i64 0,.int .i64 0,.int .i64 0,.int .i64 0,.int .i64 0,.int .i64 0,.int .i64 0,.int .i64 0,.int .i64 0]):=by kernel_rfl
theorem Ao:(Tryz.prog.info? 27).map (·.size)=some 1:=by kernel_rfl
theorem zr27:(Tryz.prog.info? 27).bind (·.zero)=some (.pointer none):=by kernel_rfl
theorem Ap:(Tryz.prog.info? 30).map (·.size)=some 1:=by kernel_rfl
theorem zr30:(Tryz.prog.info? 30).bind (·.zero)=some (.int .i64 0):=by kernel_rfl
theorem sz35:(Tryz.prog.info? 35).map (·.size)=some 1:=by kernel_rfl
theorem sz36:(Tryz.prog.info? 36).map (·.size)=some 1:=by kernel_rfl
theorem zr38:(Tryz.prog.info? 38).bind (·.zero)=some (.agg #[.pointer none,.int .i64 0,.map none]):=by kernel_rfl
theorem tJ:(Tryz.prog.info? 42).map (·.size)=some 4:=by kernel_rfl
theorem sz46:(Tryz.prog.info? 46).map (·.size)=some 1:=by kernel_rfl
theorem yy:(Tryz.prog.info? 49).map (·.size)=some 1:=by kernel_rfl
theorem zr49:(Tryz.prog.info? 49).bind (·.zero)=some (.slice none 0 0):=by kernel_rfl
theorem sz62:(Tryz.prog.info? 62).map (·.size)=some 1:=by kernel_rfl
theorem rQ:(Tryz.prog.info? 64).map (·.size)=some 3:=by kernel_rfl
theorem zr64:(Tryz.prog.info? 64).bind (·.zero)=some (.agg #[.pointer none,.pointer none,.pointer none]):=by kernel_rfl
theorem mo:(Tryz.prog.info? 71).map (·.size)=some 5:=by kernel_rfl
theorem zK:(Tryz.prog.info? 71).bind (·.zero)=some (.agg #[.int .i64 0,.int .i64 0,.int .i64 0,.int .i64 0,.int .i64 0]):=by kernel_rfl
theorem fw:(Tryz.prog.info? 78).map (·.size)=some 1:=by kernel_rfl
theorem rR:(Tryz.prog.info? 78).bind (·.zero)=some (.slice none 0 0):=by kernel_rfl
theorem AW:(Tryz.prog.info? 89).map (·.size)=some 1:=by kernel_rfl
theorem zr91:(Tryz.prog.info? 91).bind (·.zero)=some (.agg #[.pointer none,.int .i64 0,.slice none 0 0]):=by kernel_rfl
theorem wL:(Tryz.prog.info? 100).map (·.size)=some 10:=by kernel_rfl
theorem f0:(Tryz.prog.info? 100).bind (·.zero)=some (.agg #[.int .i64 0,.int .i64 0,.int .i64 0,.int .i64 0,.int .i64 0,.int .i64 0,.int .i64 0,.int .i64 0,.int .i64 0,.int .i64 0]):=by kernel_rfl
theorem qw:(Tryz.prog.info? 120).map (·.size)=some 1:=by kernel_rfl
theorem sz122:(Tryz.prog.info? 122).map (·.size)=some 1:=by kernel_rfl
theorem wM:(Tryz.prog.info? 122).bind (·.zero)=some (.agg #[.slice none 0 0]):=by kernel_rfl
theorem sz123:(Tryz.prog.info? 123).map (·.size)=some 1:=by kernel_rfl
theorem zr125:(Tryz.prog.info? 125).bind (·.zero)=some (.agg #[.map none,.int .i64 0]):=by kernel_rfl
theorem wN:(Tryz.prog.info? 126).map (·.size)=some 1:=by kernel_rfl
theorem dZ:(Tryz.prog.info? 126).bind (·.zero)=some (.pointer none):=by kernel_rfl
theorem wO:(Tryz.prog.info? 128).map (·.size)=some 1:=by kernel_rfl
theorem wP:(Tryz.prog.info? 130).bind (·.zero)=some (.agg #[.int .i64 0,.int .i64 0,.int .i64 0,.int .i64 0,.int .i64 0,.slice none 0 0]):=by kernel_rfl
theorem tK:(Tryz.prog.info? 132).map (·.size)=some 1:=by kernel_rfl
theorem bQ:(Tryz.prog.info? 134).map (·.size)=some 2:=by kernel_rfl
theorem eY:(Tryz.prog.info? 134).bind (·.zero)=some (.agg #[.string ⟨#[]⟩,.slice none 0 0]):=by kernel_rfl
theorem oa:(Tryz.prog.info? 144).map (·.size)=some 10:=by kernel_rfl
theorem wQ:(Tryz.prog.info? 144).bind (·.zero)=some (.agg #[.int .i64 0,.int .i64 0,.int .i64 0,.int .i64 0,.int .i64 0,.int .i64 0,.int .i64 0,.int .i64 0,.int .i64 0,.int .i64 0]):=by kernel_rfl
theorem sz151:(Tryz.prog.info? 151).map (·.size)=some 1:=by kernel_rfl
theorem sz162:(Tryz.prog.info? 162).map (·.size)=some 1:=by kernel_rfl
theorem zr162:(Tryz.prog.info? 162).bind (·.zero)=some (.nilFunc):=by kernel_rfl
theorem sz163:(Tryz.prog.info? 163).map (·.size)=some 1:=by kernel_rfl
theorem mV:(Tryz.prog.info? 165).bind (·.zero)=some (.agg #[.nilFunc,.nilFunc]):=by kernel_rfl
theorem sz171:(Tryz.prog.info? 171).map (·.size)=some 1:=by kernel_rfl
theorem tL:(Tryz.prog.info? 173).map (·.size)=some 2:=by kernel_rfl
theorem zr173:(Tryz.prog.info? 173).bind (·.zero)=some (.agg #[.pointer none,.slice none 0 0]):=by kernel_rfl
theorem sz184:(Tryz.prog.info? 184).map (·.size)=some 4:=by kernel_rfl
theorem wR:(Tryz.prog.info? 184).bind (·.zero)=some (.agg #[.int .u8 0,.int .u8 0,.int .u8 0,.int .u8 0]):=by kernel_rfl
theorem zr196:(Tryz.prog.info? 196).bind (·.zero)=some (.agg #[.string ⟨#[]⟩,.int .i64 0]):=by kernel_rfl
theorem tM:(Tryz.prog.info? 205).map (·.size)=some 4:=by kernel_rfl
theorem wS:(Tryz.prog.info? 205).bind (·.zero)=some (.agg #[.int .u8 0,.int .u8 0,.int .u8 0,.int .u8 0]):=by kernel_rfl
theorem zr207:(Tryz.prog.info? 207).bind (·.zero)=some (.agg #[.int .u8 0,.int .u8 0,.int .u8 0,.int .u8 0,.string ⟨#[]⟩,.int .i64 0]):=by kernel_rfl
open Go.PK
abbrev u3:=@Tryz.underlying3
abbrev u4:=@Tryz.underlying4
abbrev u5:=@Tryz.underlying5
abbrev u9:=@Tryz.underlying9
abbrev l9:=@Tryz.underlying23
abbrev f4:=@Tryz.underlying25
abbrev AD:=@Tryz.underlying27
abbrev u30:=@Tryz.underlying30
abbrev u35:=@Tryz.underlying35
abbrev oc:=@Tryz.underlying36
abbrev u38:=@Tryz.underlying38
abbrev u42:=@Tryz.underlying42
abbrev ij:=@Tryz.underlying44
abbrev u46:=@Tryz.underlying46
abbrev jU:=@Tryz.underlying49
abbrev qx:=@Tryz.underlying52
abbrev u53:=@Tryz.underlying53
abbrev jH:=@Tryz.underlying56
abbrev u60:=@Tryz.underlying60
abbrev u62:=@Tryz.underlying62
abbrev u64:=@Tryz.underlying64
abbrev wT:=@Tryz.underlying71
abbrev ez:=@Tryz.underlying78
abbrev mW:=@Tryz.underlying89
abbrev u91:=@Tryz.underlying91
abbrev Aa:=@Tryz.underlying100
abbrev Aq:=@Tryz.underlying113
abbrev jn:=@Tryz.underlying120
abbrev u122:=@Tryz.underlying122
abbrev dw:=@Tryz.underlying123
abbrev u125:=@Tryz.underlying125
abbrev rS:=@Tryz.underlying126
abbrev tN:=@Tryz.underlying128
abbrev u130:=@Tryz.underlying130
abbrev dd:=@Tryz.underlying132
abbrev jE:=@Tryz.underlying134
abbrev u144:=@Tryz.underlying144
abbrev jo:=@Tryz.underlying151
abbrev u162:=@Tryz.underlying162
abbrev u163:=@Tryz.underlying163
abbrev tO:=@Tryz.underlying165
abbrev u171:=@Tryz.underlying171
abbrev u173:=@Tryz.underlying173
abbrev u175:=@Tryz.underlying175
abbrev lJ:=@Tryz.underlying184
abbrev u196:=@Tryz.underlying196
abbrev yz:=@Tryz.underlying205
abbrev u207:=@Tryz.underlying207
abbrev u235:=@Tryz.underlying235
abbrev u283:=@Tryz.underlying283
abbrev u285:=@Tryz.underlying285
instance:fU u3:=⟨u3⟩
instance:fU u4:=⟨u4⟩
instance:fU u5:=⟨u5⟩
instance:fU u9:=⟨u9⟩
instance:fU l9:=⟨l9⟩
instance:fU f4:=⟨f4⟩
instance:fU AD:=⟨AD⟩
instance:fU u30:=⟨u30⟩
instance:fU u35:=⟨u35⟩
instance:fU oc:=⟨oc⟩
instance:fU u38:=⟨u38⟩
instance:fU u42:=⟨u42⟩
instance:fU ij:=⟨ij⟩
instance:fU u46:=⟨u46⟩
instance:fU jU:=⟨jU⟩
instance:fU qx:=⟨qx⟩
instance:fU u53:=⟨u53⟩
instance:fU jH:=⟨jH⟩
instance:fU u60:=⟨u60⟩
instance:fU u62:=⟨u62⟩
instance:fU u64:=⟨u64⟩
instance:fU wT:=⟨wT⟩
instance:fU ez:=⟨ez⟩
instance:fU mW:=⟨mW⟩
instance:fU u91:=⟨u91⟩
instance:fU Aa:=⟨Aa⟩
instance:fU Aq:=⟨Aq⟩
instance:fU jn:=⟨jn⟩
instance:fU u122:=⟨u122⟩
instance:fU dw:=⟨dw⟩
instance:fU u125:=⟨u125⟩
instance:fU rS:=⟨rS⟩
instance:fU tN:=⟨tN⟩
instance:fU u130:=⟨u130⟩
instance:fU dd:=⟨dd⟩
instance:fU jE:=⟨jE⟩
instance:fU u144:=⟨u144⟩
instance:fU jo:=⟨jo⟩
instance:fU u162:=⟨u162⟩
instance:fU u163:=⟨u163⟩
instance:fU tO:=⟨tO⟩
instance:fU u171:=⟨u171⟩
instance:fU u173:=⟨u173⟩
instance:fU u175:=⟨u175⟩
instance:fU lJ:=⟨lJ⟩
instance:fU u196:=⟨u196⟩
instance:fU yz:=⟨yz⟩
instance:fU u207:=⟨u207⟩
instance:fU u235:=⟨u235⟩
instance:fU u283:=⟨u283⟩
instance:fU u285:=⟨u285⟩
instance:kb cT:=⟨cT⟩
instance:kb lq:=⟨lq⟩
instance:kb gG:=⟨gG⟩
instance:kb iL:=⟨iL⟩
instance:kb cm:=⟨cm⟩
instance:kb Ao:=⟨Ao⟩
instance:kb Ap:=⟨Ap⟩
instance:kb sz35:=⟨sz35⟩
instance:kb sz36:=⟨sz36⟩
instance:kb tJ:=⟨tJ⟩
instance:kb sz46:=⟨sz46⟩
instance:kb yy:=⟨yy⟩
instance:kb sz62:=⟨sz62⟩
instance:kb rQ:=⟨rQ⟩
instance:kb mo:=⟨mo⟩
instance:kb fw:=⟨fw⟩
instance:kb AW:=⟨AW⟩
instance:kb wL:=⟨wL⟩
instance:kb qw:=⟨qw⟩
instance:kb sz122:=⟨sz122⟩
instance:kb sz123:=⟨sz123⟩
instance:kb wN:=⟨wN⟩
instance:kb wO:=⟨wO⟩
instance:kb tK:=⟨tK⟩
instance:kb bQ:=⟨bQ⟩
instance:kb oa:=⟨oa⟩
instance:kb sz151:=⟨sz151⟩
instance:kb sz162:=⟨sz162⟩
instance:kb sz163:=⟨sz163⟩
instance:kb sz171:=⟨sz171⟩
instance:kb tL:=⟨tL⟩
instance:kb sz184:=⟨sz184⟩
instance:kb tM:=⟨tM⟩
instance:mn rP:=⟨rP⟩
instance:mn vk:=⟨vk⟩
instance:mn kA:=⟨kA⟩
instance:mn pV:=⟨pV⟩
instance:mn gI:=⟨gI⟩
instance:mn zr27:=⟨zr27⟩
instance:mn zr30:=⟨zr30⟩
instance:mn zr38:=⟨zr38⟩
instance:mn zr49:=⟨zr49⟩
instance:mn zr64:=⟨zr64⟩
instance:mn zK:=⟨zK⟩
instance:mn rR:=⟨rR⟩
instance:mn zr91:=⟨zr91⟩
instance:mn f0:=⟨f0⟩
instance:mn wM:=⟨wM⟩
instance:mn zr125:=⟨zr125⟩
instance:mn dZ:=⟨dZ⟩
instance:mn wP:=⟨wP⟩
instance:mn eY:=⟨eY⟩
instance:mn wQ:=⟨wQ⟩
instance:mn zr162:=⟨zr162⟩
instance:mn mV:=⟨mV⟩
instance:mn zr173:=⟨zr173⟩
instance:mn wR:=⟨wR⟩
instance:mn zr196:=⟨zr196⟩
instance:mn wS:=⟨wS⟩
instance:mn zr207:=⟨zr207⟩
open Go.RowKit Go.PK
theorem qz (c:UInt8) (w:World) :
  Calls Tryz.prog 177 #[.int .u8 (c.toNat:Nat)] w fun e w'=>e=.returned (.bool (eD c))∧Later w w':=by
 refine enter Tryz.func177 rfl Tryz.ntmps177 rfl ?_
 refine Rn [3,1,9,0,57,0,21,67,30,1,2,6] fun b4 hb4 b7 hb7 b8 hb8=>?_
 refine aw rfl rfl (fun w' hm=>⟨?_,hm.b⟩)
 rw [hb8,hb7,hb4,cap_a]
theorem jq (c:UInt8) (w:World) :
  Calls Tryz.prog 69 #[.int .u8 (c.toNat:Nat)] w fun e w'=>e=.returned (.bool (eD c))∧Later w w':=by
 refine enter Tryz.func69 rfl Tryz.ntmps69 rfl ?_
 refine Rn [3,1,9,0,57,0,21,67,30,1,2,6] fun b4 hb4 b7 hb7 b8 hb8=>?_
 refine aw rfl rfl (fun w' hm=>⟨?_,hm.b⟩)
 rw [hb8,hb7,hb4,cap_a]
theorem c_rsign (c:UInt8) (w:World) :
  Calls Tryz.prog 127 #[.int .u8 (c.toNat:Nat)] w fun e w'=>e=.returned (.bool (mX c))∧Later w w':=by
 refine enter Tryz.func127 rfl Tryz.ntmps127 rfl ?_
 refine Rn [3,1,9,0,38,0,21,73,25,0,21,73] fun b4 hb4 b7 hb7 b8 hb8 b11 hb11=>?_
 refine Rn [25,0,21,73,25,1,2,6] fun b12 hb12 b15 hb15 b16 hb16=>?_
 refine aw rfl rfl (fun w' hm=>⟨?_,hm.b⟩)
 rw [hb16,hb15,hb12,hb11,hb8,hb7,hb4,sign_a]
theorem c_usual (w:World) :
  Calls Tryz.prog 174 #[] w fun e w'=>e=.returned (.agg bO.cells.toArray)∧Later w w':=by
 refine enter Tryz.func174 rfl Tryz.ntmps174 rfl ?_
 refine Rn [3,28,9] fun p0=>?_
 refine Xv rfl (aH (places:=[(0,1),(1,1),(2,1),(3,1)]) yz wS Zk rfl rfl) ?_
 refine Rn [32,2,6] ?_
 refine tz rfl rfl (.head _) yz rfl tM (fun w' hm=>⟨rfl,hm.b⟩)
theorem c_list (g:Sg) (w:World) :
  Calls Tryz.prog 201 #[.agg g.cells.toArray] w fun e w'=>∃ v,e=.returned v∧Later w w'∧ab tyB (fun b=>w.heap.size≤b) w' v (gl g):=by
 refine enter Tryz.func201 rfl Tryz.ntmps201 rfl ?_
 refine Rn [3,36,1,9,4,51,4,51,4,51,4,51] fun p1=>?_
 refine ac rfl rfl rfl jU lq vk rfl rfl rfl ?_
 intro p11
 refine Rn [1,2,6] ?_
 refine aw rfl rfl (fun w' hm=>⟨_,rfl,hm.b,?_⟩)
 exact wU (e:=5) (r:=some (p11,ea (gl g),4)) (n:=4) (fun c:UInt8=>Value.int .u8 (c.toNat:Nat)) rfl (cE rfl (by decide)) rfl (fun _ _ _ _=>rfl) hm (fun p hp=>by rw [List.mem_singleton.1 hp]; exact .head _) (fun p hp=>by rw [List.mem_singleton.1 hp]; exact hm.newer (by simp) (.head _))
theorem c_Index {v:Value} {bs:List UInt8} {D:Nat→Prop} (c:UInt8) (w:World) (hbs:ab tyB D w v bs) :
  Calls Tryz.prog 220 #[v,.int .u8 (c.toNat:Nat)] w fun e w'=>e=.returned (Vi (zP (fun x=>decide (c=x)) bs))∧Later w w':=by
 obtain ⟨A,cp,rfl,hlc,hmx,hA⟩:=id hbs
 refine enter Tryz.func220 rfl Tryz.ntmps220 rfl ?_
 refine Rn [3,1,2,5,3,0,31,0,2,14] ?_
 refine aO (σ:=Nat) (fun k=>k≤bs.length∧∀ j (h:j < bs.length),j < k→decide (c=bs[j])=false) (fun k=>[(0,.slice A bs.length cp),(1,Value.int .u8 (c.toNat:Nat)),(7,Vi bs.length),(8,Vi (k:Nat))]) (fun k=>[]) (fun k=>[(w,fun _=>True)]) (fun k=>bs.length - k) (0) (⟨Nat.zero_le _,by intros; omega⟩) (aC Zu (fun _ h=>h)) ?_
 rintro k ⟨hk,hno⟩
 refine Rn [144,3,24,2,5,12] fun b9 hb9=>Aw (fun hc9=>?_) fun hc9=>?_
 ·have hkl:k < bs.length:=by omega
  obtain ⟨b0,o0,hA0,hD0,hc0⟩:=b_at hbs hkl
  refine Rn [16,5,14,3,0,1,9,0,0,0] ?_
  refine Xv rfl (ae jU lq (congrArg (fun A=>some (Value.slice A bs.length cp)) hA0) rfl Zo rfl) (Xl rfl u5 rfl (an (.head _) trivial (by rw [Nat.mul_one]; exact hc0)) ?_)
  refine Rn [38,2,12] fun b16 hb16=>Aw (fun hc16=>?_) fun hc16=>?_
  ·refine Rn [3,0,1,2,6,15,8,8,15,8] ?_
   refine aw rfl rfl (fun w' hm=>⟨?_,hm.b⟩)
   rw [zI hkl (decide_eq_true (s5.1 hc16)) hno]
  refine Rn [45,27,17,18,26,0,13] ?_
  exact aJ (k+1) (⟨by omega,fun j h hjk=>by rcases Nat.lt_succ_iff_lt_or_eq.1 hjk with h2 | rfl; (· exact hno j h h2); exact decide_eq_false (fun e=>hc16 (s5.2 e))⟩) (by omega) Zu (fun _ h=>h)
 refine Rn [34,19,19,35,17,3,1,2,6] ?_
 refine aw rfl rfl (fun w' hm=>⟨?_,hm.b⟩)
 rw [j8 (fun j h=>hno j h (by omega))]
theorem vn {v:Value} {bs:List UInt8} {D:Nat→Prop} (c:UInt8) (w:World) (hbs:ab tyB D w v bs) :
  Calls Tryz.prog 202 #[v,.int .u8 (c.toNat:Nat)] w fun e w'=>e=.returned (.bool (vm bs c))∧Later w w':=by
 refine enter Tryz.func202 rfl Tryz.ntmps202 rfl ?_
 refine Rn [3,1,9,0,0] ?_
 refine Xc rfl Tryz.func220 rfl (fun w1 hw1=>c_Index _ w1 (hbs.keep (aV.later hw1.b))) ?_
 refine Rn [57,1,2,6] fun b8 hb8=>?_
 refine aw rfl rfl (fun w' hm=>⟨?_,hm.b⟩)
 rw [hb8,Bool.eq_iff_iff.2 (decide_eq_true_iff.trans (wB _ bs))]; rfl
theorem c_right (g:Sg) (w:World) :
  Calls Tryz.prog 176 #[.agg g.cells.toArray] w fun e w'=>e=.returned (.bool (decide (eX g)))∧Later w w':=by
 refine enter Tryz.func176 rfl Tryz.ntmps176 rfl ?_
 refine Rn [3,36,1,9,39] fun p1=>?_
 refine Xd rfl Tryz.func201 rfl (fun w1 hw1=>c_list g w1) fun v7 wa7 wb7 hm7 hl7 hr7=>?_
 obtain ⟨A7,c7,hv7,hl7,_⟩:=id hr7
 subst hv7
 refine Rn [1,2,5,3,0,31,0,2,14] ?_
 refine aO (σ:=Nat) (fun k=>k≤4∧mp (gl g) k) (fun k=>[(3,.slice A7 4 c7),(8,.slice A7 4 c7),(9,Vi 4),(10,Vi (k:Nat))]) (fun k=>[(Bk p1 g.cells 205)]) (fun k=>[(wb7,a7 [(Bk p1 g.cells 205)]),(w,fun _=>True)]) (fun k=>4 - k) (0) (⟨Nat.zero_le _,trivial⟩) (aC Zu (fun _ h=>h)) ?_
 rintro k ⟨hk,hr⟩
 refine Rn [144,3,24,2,5,12] fun b11 hb11=>Aw (fun hc11=>?_) fun hc11=>?_
 ·have hk4:k < 4:=by omega
  have hkl:k < (gl g).length:=hk4
  obtain ⟨b0,o0,hA0,hD0,hc0⟩:=b_at (c:=c7) (l:=4) hr7 hkl
  have hgd:(gl g)[k]=((gl g).getD k 0):=by rw [List.getD_eq_getElem?_getD,List.getElem?_eq_getElem hkl]; rfl
  rw [hgd] at hc0
  generalize hck:((gl g).getD k 0)=ck at hc0
  have hclr:=clr_val ck
  refine Rn [16,5,14,3,0] ?_
  refine Xv rfl (ae jU lq (congrArg (fun A=>some (Value.slice A 4 c7)) hA0) rfl Zo rfl) (Xl rfl u5 rfl (an (.head _) (fun p hp=>by rw [List.mem_singleton.1 hp]; have:=hm7.lt (p:=(Bk p1 g.cells 205)) (.head _); dsimp only at this ⊢; omega) (by rw [Nat.mul_one]; exact hc0)) ?_)
  refine Rn [1,1,9,0,85,0,21,69,21,71] fun b16 hb16 b19 hb19=>?_
  refine fp [(b16,false)] rfl rfl rfl rfl rfl (fun hg=>by obtain ⟨hg0,hg1,_⟩:=hg; subst hg0; subst hg1; (try simp only [Qy]); exact nM rfl rfl) fun b22 hb22=>?_
  refine Rn [81,25,0,21] fun b23 hb23 b24 hb24=>?_
  refine fV [] rfl rfl rfl rfl rfl (v:=Value.int .u8 ((clr ck).toNat:Nat)) (fun hg=>by obtain ⟨hg0,_⟩:=hg; subst hg0; (try simp only [Qy]); rw [← hclr]; exact yt rfl rfl) ?_
  refine cQ [] rfl rfl rfl rfl rfl Tryz.func177 Zk (fun hg=>by obtain ⟨hg0,_⟩:=hg; subst hg0; (try simp only [Qy]); refine ⟨_,rfl,?_⟩; exact fun w1 hw1=>qz _ w1) fun b28 hb28=>?_
  refine Rn [25,0,21,21] fun b29 hb29=>?_
  refine Xi rfl rfl rfl (fun hg0=>by subst hg0; (try simp only [Qy]); exact qe jU lq rfl rfl (by have:(gl g).length=4:=rfl; omega)) (Xg ?_)
  refine cQ [] rfl rfl rfl rfl rfl Tryz.func202 Zk (fun hg=>by obtain ⟨hg0,_⟩:=hg; subst hg0; (try simp only [Qy]); refine ⟨_,rfl,?_⟩; exact fun w1 hw1=>vn (bs:=(gl g).take k) _ w1 ((bY hr7 hw1 (.head _) hm7).take k (by have:(gl g).length=4:=rfl; omega))) fun b35 hb35=>?_
  refine Rn [25,2,10] fun b36 hb36=>Aw (fun hc36=>?_) fun hc36=>?_
  ·have hbad:jz (gl g) k↔b36=true:=by
    rw [hb36,hb35,hb29,hb28,hb24,hb23,hb22,hb19,hb16]
    unfold jz iK
    rw [hck]
    simp only [Bool.or_eq_true,Bool.and_eq_true,decide_eq_true_eq,wW]
    by_cases hx:vm ((gl g).take k) ck=true
    ·simp only [hx,or_true]
    simp only [hx,Bool.false_eq_true,or_false]; omega
   have hB:=hbad.2 hc36
   refine Rn [3,1,2,6,15,8,8,15,8] ?_
   refine aw rfl rfl (fun w' hm=>⟨?_,hm.b⟩)
   rw [decide_eq_false (fun hs=>kc hk4 ((gJ g).1 hs) hB)]
  have hbad:jz (gl g) k↔b36=true:=by
   rw [hb36,hb35,hb29,hb28,hb24,hb23,hb22,hb19,hb16]
   unfold jz iK
   rw [hck]
   simp only [Bool.or_eq_true,Bool.and_eq_true,decide_eq_true_eq,wW]
   by_cases hx:vm ((gl g).take k) ck=true
   ·simp only [hx,or_true]
   simp only [hx,Bool.false_eq_true,or_false]; omega
  have hB:¬jz (gl g) k:=fun h=>by rw [hbad.1 h] at hc36; cases hc36
  refine Rn [45,27,17,18,26,0,13] ?_
  exact aJ (k+1) (⟨by omega,hr,hB⟩) (by omega) Zu (fun _ h=>h)
 obtain rfl:k=4:=by omega
 refine Rn [34,19,19,35,17,3,1,2,6] ?_
 refine aw rfl rfl (fun w' hm=>⟨?_,hm.b⟩)
 rw [decide_eq_true ((gJ g).2 hr)]
open Go.RowKit Go.PK
theorem c_skip {l1 l2:List (Nat×Obj)} {ro:List av} {p:Nat} (g:Sg) (s:ByteArray) (a:Nat) (w:World) (hm:Mem w (l1++(Bk p (bE g s (a)) 207)::l2) ro) (hs:s.size≤200000000) (ha:a≤s.size) :
  Calls Tryz.prog 155 #[Pt p] w fun e w'=>e=.returned (.tuple #[])∧Mem w' (l1++(Bk p (bE g s (bI s a)) 207)::l2) ro:=by
 refine ay hm Tryz.func155 rfl Tryz.ntmps155 rfl ?_
 refine nn ?_
 refine aO (σ:=Nat) (fun x=>x≤s.size∧bI s x=bI s a) (fun x=>[(0,Pt p)]) (fun x=>l1++(Bk p (bE g s (x)) 207)::l2) (fun x=>ro) (fun x=>s.size - x) (a) (⟨ha,rfl⟩) (aC Zu (fun _ h=>h)) ?_
 rintro x ⟨hx,hk⟩
 refine Rn [144,5,5] ?_
 refine bc 46 ?_
 refine Rn [0,11,4,7,0,11,4,7,53,24,0,21,59,22,40,21,59,22,40] fun b11 hb11=>?_
 refine Xi rfl rfl rfl (fun hg0=>by subst hg0; (try simp only [Qy]); exact bv u9 rfl rfl (by have:=of_decide_eq_true hb11.symm; omega)) ?_
 refine Rn [73,21,71,94,95,96,71,94,95,96] fun b22 hb22=>?_
 refine fV [(b11,true)] rfl rfl rfl rfl rfl (fun hg=>by obtain ⟨hg0,hg1,_⟩:=hg; subst hg0; subst hg1; (try simp only [Qy]); exact bv u9 rfl rfl (by have:=of_decide_eq_true hb11.symm; omega)) ?_
 refine fp [(b11,true)] rfl rfl rfl rfl rfl (fun hg=>by obtain ⟨hg0,hg1,_⟩:=hg; subst hg0; subst hg1; (try simp only [Qy]); exact mS rfl rfl) fun b33 hb33=>?_
 refine Rn [93,21,71,94,95,96,71,94,95,96] fun b34 hb34=>?_
 refine fV [(b11,true)] rfl rfl rfl rfl rfl (fun hg=>by obtain ⟨hg0,hg1,_⟩:=hg; subst hg0; subst hg1; (try simp only [Qy]); exact bv u9 rfl rfl (by have:=of_decide_eq_true hb11.symm; omega)) ?_
 refine fp [(b11,true)] rfl rfl rfl rfl rfl (fun hg=>by obtain ⟨hg0,hg1,_⟩:=hg; subst hg0; subst hg1; (try simp only [Qy]); exact mS rfl rfl) fun b45 hb45=>?_
 refine Rn [93,30,2,10] fun b46 hb46 b47 hb47=>Aw (fun hc47=>?_) fun hc47=>?_
 ·have hgo:x < s.size∧ef (ad s x)=true:=by
   rw [hb47,hb46,hb45,hb34,hb33,hb22,hb11] at hc47
   simp only [Bool.and_eq_true,Bool.or_eq_true,decide_eq_true_eq] at hc47
   exact ⟨by omega,(j9 _).2 hc47.2⟩
  refine Rn [16,14,18,0,11,4,7] ?_
  refine Xv rfl (bg rfl rfl rfl (by have:=hgo.1; omega)) ?_
  refine Rn [11,4] ?_
  refine aG l1 rfl rfl rfl rfl cT rfl (by show 6≤6; decide) ?_
  refine Rn [13,27] ?_
  exact aJ (x+1) ⟨by omega,by rw [← rH hgo.1 hgo.2]; exact hk⟩ (by omega) Zu (fun _ h=>h)
 have hns:¬(x < s.size∧ef (ad s x)=true):=fun ⟨h1,h2⟩=>by
  rw [j9] at h2
  rw [hb47,hb46,hb45,hb34,hb33,hb22,hb11,decide_eq_true (show (x:Int) < s.size by omega)] at hc47
  simp only [Bool.true_and,Bool.or_eq_false_iff,decide_eq_false_iff_not] at hc47
  rcases h2 with (h2 | h2) | h2
  ·exact hc47.1.1 h2
  ·exact hc47.1.2 h2
  exact hc47.2 h2
 have e:x=bI s a:=by rw [← hk,eJ hns]
 subst e
 refine Rn [34,19,19,35] ?_
 exact tw rfl (fun w' hm'=>⟨rfl,hm'⟩)
theorem c_next {l1 l2:List (Nat×Obj)} {ro:List av} {p:Nat} (g:Sg) (s:ByteArray) (a:Nat) (w:World) (hm:Mem w (l1++(Bk p (bE g s (a)) 207)::l2) ro) (hs:s.size≤200000000) (ha:a < s.size) :
  Calls Tryz.prog 178 #[Pt p] w fun e w'=>e=.returned (.int .u8 ((ad s a).toNat:Nat))∧Mem w' (l1++(Bk p (bE g s (a+1)) 207)::l2) ro:=by
 refine ay hm Tryz.func178 rfl Tryz.ntmps178 rfl ?_
 refine Rn [3,1,9,0,11,4,7] ?_
 refine Xv rfl (bg rfl rfl rfl (by omega)) ?_
 refine Rn [11,4] ?_
 refine aG l1 rfl rfl rfl rfl cT rfl (by show 6≤6; decide) ?_
 refine Rn [2,5] ?_
 refine bc 11 ?_
 refine Rn [0,11,4] ?_
 refine Xl rfl u9 rfl (aa (vs:=bE g s (a+1)) (List.mem_append_right _ (.head _)) rfl) ?_
 refine Rn [0,11,4] ?_
 refine Xl rfl u3 rfl (aa (vs:=bE g s (a+1)) (List.mem_append_right _ (.head _)) rfl) (Xv rfl (dH (c:=(a:Int)) rfl rfl (by omega) (by omega)) (Xv rfl (bv u9 rfl rfl (ha)) ?_))
 refine Rn [1,2,6] ?_
 refine aw rfl rfl (fun w' hm'=>⟨?_,hm'⟩)
 rfl
theorem c_tag {l1 l2:List (Nat×Obj)} {ro:List av} {p:Nat} (g:Sg) (s:ByteArray) (a:Nat) (w:World) (hm:Mem w (l1++(Bk p (bE g s (a)) 207)::l2) ro) (hs:s.size≤200000000) (ha:a≤s.size) :
  Calls Tryz.prog 156 #[Pt p] w fun e w'=>e=.returned (.tuple #[.string (cX s g a).1.1,Vi (cX s g a).1.2.1,Vi (cX s g a).1.2.2])∧Mem w' (l1++(Bk p (bE g s ((cX s g a).2)) 207)::l2) ro:=by
 have hts:=kP (s:=s) (a:=a) ha
 refine ay hm Tryz.func156 rfl Tryz.ntmps156 rfl ?_
 refine Rn [3,1,1,1,2,5] ?_
 refine bc 21 ?_
 refine Rn [0,11,4,7,0,11,4,7,0,11,4,7] ?_
 refine Xv rfl (bg rfl rfl rfl (by omega)) ?_
 refine Rn [0,11,4,7,53] ?_
 refine Xv (v:=Vi ((min (a+3) s.size:Nat):Int)) rfl (by rw [show ((min (a+3) s.size:Nat):Int)=min ((a:Int)+3) (s.size:Int) by omega]; exact tG rfl rfl) (Xv (v:=Value.string (aQ s a)) rfl (v_cut u9 rfl rfl rfl (by omega) (by omega)) ?_)
 refine Rn [1,2,5,3,0,53,0,2,14] ?_
 refine aO (σ:=Nat) (fun k=>k≤(aQ s a).size∧∀ j,j < k→eD (ad (aQ s a) j)=true) (fun k=>[(0,Pt p),(5,Value.string (aQ s a)),(28,Vi ((aQ s a).size:Nat)),(29,Vi (k:Nat))]) (fun k=>l1++(Bk p (bE g s (a)) 207)::l2) (fun k=>ro) (fun k=>(aQ s a).size - k) (0) (⟨Nat.zero_le _,by intros; omega⟩) (aC Zu (fun _ h=>h)) ?_
 rintro k ⟨hk,hc⟩
 refine Rn [144,3,24,2,5,12] fun b30 hb30=>Aw (fun hc30=>?_) fun hc30=>?_
 ·have hkl:k < (aQ s a).size:=by omega
  refine Rn [16,5,14,3,0,1,9,0,0] ?_
  refine Xv rfl (bv u9 rfl rfl (hkl)) (Xh rfl Tryz.func177 rfl (fun w1 hw1=>qz _ w1) fun b35 hb35=>?_)
  refine Rn [43,2,10] fun b36 hb36=>Aw (fun hc36=>?_) fun hc36=>?_
  ·have hnc:¬jQ (aQ s a):=fun h=>by rw [hb36,hb35,h k hkl] at hc36; cases hc36
   have eT:cX s g a=((⟨#[]⟩,((a:Nat):Int),40),a):=by unfold cX; rw [if_pos hnc]
   rw [eT]
   refine Zs ?_
   refine bc 7 ?_
   refine Rn [0,11,4,7,1,1,1,2,6,15,8,8,15,8] ?_
   refine dJ rfl rfl rfl rfl (fun w' hm'=>⟨?_,hm'⟩)
   rfl
  have hcp:eD (ad (aQ s a) k)=true:=by rw [hb36,hb35] at hc36; simpa using hc36
  refine Rn [45,27,17,18,26,0,13] ?_
  exact aJ (k+1) ⟨hkl,fun j hj=>by rcases Nat.lt_succ_iff_lt_or_eq.1 hj with h | rfl; (· exact hc j h); exact hcp⟩ (by omega) Zu (fun _ h=>h)
 obtain rfl:k=(aQ s a).size:=by omega
 have hall:jQ (aQ s a):=hc
 refine Rn [34,19,19,35,17,3,0,11,4,7,0,53] ?_
 refine Xv rfl (bg rfl rfl rfl (by omega)) ?_
 refine Rn [11,4] ?_
 refine aG l1 rfl rfl rfl rfl cT rfl (by show 6≤6; decide) ?_
 refine Rn [2,5,14,5] ?_
 refine bc 16 ?_
 refine Rn [0,53,24,0,21,59,22] fun b54 hb54=>?_
 refine Xi rfl rfl rfl (fun hg0=>by subst hg0; (try simp only [Qy]); exact aW u3 rfl rfl (aa (vs:=bE g s (a+(aQ s a).size)) (List.mem_append_right _ (.head _)) rfl)) ?_
 refine Rn [21,59,22] ?_
 refine Xi rfl rfl rfl (fun hg0=>by subst hg0; (try simp only [Qy]); exact aW u9 rfl rfl (aa (vs:=bE g s (a+(aQ s a).size)) (List.mem_append_right _ (.head _)) rfl)) ?_
 refine Rn [83,73,25,1,2,10] fun b65 hb65 b66 hb66=>Aw (fun hc51=>?_) fun hc51=>?_
 ·have hor:(aQ s a).size < 3∨a+(aQ s a).size=s.size:=by rw [hb66,hb65,hb54] at hc51; simp only [Bool.or_eq_true,decide_eq_true_eq] at hc51; omega
  have eT:cX s g a=((⟨#[]⟩,((s.size:Nat):Int),10),a+(aQ s a).size):=by unfold cX; rw [if_neg (fun h=>h hall),if_pos hor]
  rw [eT]
  refine Zs ?_
  refine bc 8 ?_
  refine Rn [0,11,4] ?_
  refine Xl rfl u9 rfl (aa (vs:=bE g s (a+(aQ s a).size)) (List.mem_append_right _ (.head _)) rfl) ?_
  refine Rn [53,1,1,1,2,6,15,8] ?_
  refine dJ rfl rfl rfl rfl (fun w' hm'=>⟨?_,hm'⟩)
  rfl
 have hor:¬((aQ s a).size < 3∨a+(aQ s a).size=s.size):=by rw [hb66,hb65,hb54] at hc51; simp only [Bool.or_eq_false_iff,decide_eq_false_iff_not] at hc51; omega
 refine Zs ?_
 refine bc 33 ?_
 refine Rn [0,11,4] ?_
 refine Xl rfl u9 rfl (aa (vs:=bE g s (a+(aQ s a).size)) (List.mem_append_right _ (.head _)) rfl) ?_
 refine Rn [0,11,4] ?_
 refine Xl rfl u3 rfl (aa (vs:=bE g s (a+(aQ s a).size)) (List.mem_append_right _ (.head _)) rfl) (Xv rfl (bv u9 rfl rfl (by omega)) ?_)
 refine Rn [0,11,4,4] ?_
 refine Xl rfl u5 rfl (aa (vs:=bE g s (a+(aQ s a).size)) (List.mem_append_right _ (.head _)) rfl) ?_
 refine Rn [37,0,21,59,22] fun b87 hb87=>?_
 refine Xi rfl rfl rfl (fun hg0=>by subst hg0; (try simp only [Qy]); exact aW u9 rfl rfl (aa (vs:=bE g s (a+(aQ s a).size)) (List.mem_append_right _ (.head _)) rfl)) ?_
 refine Rn [21,59,22] ?_
 refine Xi rfl rfl rfl (fun hg0=>by subst hg0; (try simp only [Qy]); exact aW u3 rfl rfl (aa (vs:=bE g s (a+(aQ s a).size)) (List.mem_append_right _ (.head _)) rfl)) (Xi rfl rfl rfl (fun hg0=>by subst hg0; (try simp only [Qy]); exact bv u9 rfl rfl (by omega)) ?_)
 refine Rn [21,59,22,22] ?_
 refine Xi rfl rfl rfl (fun hg0=>by subst hg0; (try simp only [Qy]); exact aW u5 rfl rfl (aa (vs:=bE g s (a+(aQ s a).size)) (List.mem_append_right _ (.head _)) rfl)) ?_
 refine Rn [74,30,1,2,10] fun b103 hb103 b104 hb104=>Aw (fun hc72=>?_) fun hc72=>?_
 ·have hne:ad s (a+(aQ s a).size)≠g.e∧ad s (a+(aQ s a).size)≠g.n:=by rw [hb104,hb103,hb87] at hc72; simp only [Bool.and_eq_true,Bool.not_eq_true',decide_eq_false_iff_not,decide_eq_true_eq,ne_eq,s5] at hc72; exact hc72
  have eT:cX s g a=((⟨#[]⟩,((a+(aQ s a).size:Nat):Int),40),a+(aQ s a).size):=by unfold cX; rw [if_neg (fun h=>h hall),if_neg hor,if_pos hne]
  rw [eT]
  refine Zs ?_
  refine bc 7 ?_
  refine Rn [0,11,4] ?_
  refine Xl rfl u3 rfl (aa (vs:=bE g s (a+(aQ s a).size)) (List.mem_append_right _ (.head _)) rfl) ?_
  refine Rn [1,1,1,2,6,15,8] ?_
  refine dJ rfl rfl rfl rfl (fun w' hm'=>⟨?_,hm'⟩)
  rfl
 have hne:¬(ad s (a+(aQ s a).size)≠g.e∧ad s (a+(aQ s a).size)≠g.n):=fun ⟨h1,h2⟩=>by rw [hb104,hb103,hb87] at hc72; simp only [s5,ne_eq,h1,h2] at hc72; revert hc72; simp
 have eT:cX s g a=(((aQ s a),0,0),a+(aQ s a).size):=by unfold cX; rw [if_neg (fun h=>h hall),if_neg hor,if_neg hne]
 rw [eT]
 refine Rn [45,27,17,3,0,1,1,1,2,6] ?_
 refine dJ rfl rfl rfl rfl (fun w' hm'=>⟨?_,hm'⟩)
 rfl
end Go.Proofs.YtifekogdhjabaaaGreatDoor
