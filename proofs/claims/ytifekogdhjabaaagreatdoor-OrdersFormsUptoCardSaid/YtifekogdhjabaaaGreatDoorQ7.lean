/- Of the proofs of YtifekogdhjabaaaGreatDoor: Zm Zn Zo Zp Zq Zr Zs Zt Vf Vg Zu Zv Vh Vi, put together. -/
import Derived.Test.YtifekogdhjabaaaGreatDoorQ6
import Derived.Test.YtifekogdhjabaaaGreatDoorQ3
import Derived.Test.YtifekogdhjabaaaGreatDoorQ1
import Derived.Test.YtifekogdhjabaaaGreatDoorQ2
import Derived.Test.YtifekogdhjabaaaGreatDoorQ4
import Derived.Test.YtifekogdhjabaaaGreatDoorQ5
set_option linter.unusedVariables false
set_option linter.unusedSimpArgs false
set_option maxRecDepth 100000
set_option maxHeartbeats 4000000

namespace Go.Proofs.YtifekogdhjabaaaGreatDoor
open Go.RowKit Go.PK
theorem g_checkU {pO:Nat} {tol:Int} (ln:PK.Ord) (o:Option EN) (w:World) (h1:w.cell? ⟨pO,1,none⟩=some (Vi tol)) (ht:0≤tol∧tol≤1000000) (hl:0≤ln.price∧ln.price≤999999999) (ho:∀ e,o=some e→dm e.1):Calls Tryz.prog 62 #[Pt pO,.agg ln.cells.toArray,.agg (bu (zw o).1 (zw o).2).toArray,.bool o.isSome] w fun e w'=>e=.returned (Vi (bA tol ln o))∧Later w w':=by
 cases o with
 | none=>exact g_checkM (pO:=pO) (tol:=tol) ln co 0 w
 | some z=>obtain ⟨x,first⟩:=z; exact g_check ln x first w h1 ht hl (ho _ rfl)
theorem g_PayO {w:World} {L:List (Nat×Obj)} {ro:List av} {mF pF pO mO ckF ckO:Nat} {esF esO:Array MapEntry} {money:Int} {ms:List FM} {s:SG} (hm:Mem w ((Bk pO (cJ pF s.tol mO) 38)::(mO,Obj.map esO ckO)::(mF,Obj.map esF ckF)::(Bk pF (bP mF money) 125)::(FB 130 ms++L)) ro) (hF:MapF Tryz.prog 3 esF (cC ms)) (hO:MapC Tryz.prog 3 esO ckO (fR s.L)) (hfs:bW ms=s.fs) (hok:SGok s) {ws:World} (hws:(ws,fun _=>True)∈ro) (hL:LD ws) (s0:ByteArray) (hs:s0.size≤200000000) (hbig:gk (aK s0).1) {ls:List PK.Ord} (hrd:aM s0=(ls,0)) :
  Calls Tryz.prog 15 #[Pt pO,.string s0] w fun e w'=>e=.returned (Vi (aF s ls 0).1)∧∃ q:Nat×Array MapEntry×Nat×List FM,(MapC Tryz.prog 3 q.2.1 q.2.2.1 (fR (aF s ls 0).2.L)∧bW q.2.2.2=(aF s ls 0).2.fs∧cC q.2.2.2=cC ms∧(aF s ls 0).2.tol=s.tol)∧Mem w' ((Bk pO (cJ pF s.tol q.1) 38)::(q.1,Obj.map q.2.1 q.2.2.1)::(mF,Obj.map esF ckF)::(Bk pF (bP mF money) 125)::(FB 130 q.2.2.2++L)) ro:=by
 have htol:=hok.tol
 have hfk:∀ f∈bW ms,aR f.s:=by rw [hfs]; exact hok.fs
 have hlns:=kw (s:=s0)
 rw [hrd] at hlns
 dsimp only at hlns
 have hl999:ls.length≤999:=by have:=uH (s:=s0); rw [hrd] at this; exact this
 refine ay hm Tryz.func15 rfl Tryz.ntmps15 rfl ?_
 refine Rn [3,1,2,5,3,0,52,2,10] (Aw (fun hc20=>?_) fun hc20=>?_)
 ·cases hc20
 refine Rn [23,0] ?_
 refine Xd (R:=fun v wa wb=>∃ A1 c1,v=.tuple #[.slice A1 ls.length c1,Vi 0]∧ab dE (fun b=>wa.heap.size≤b) wb (.slice A1 ls.length c1) ls) rfl Tryz.func59 rfl (fun w1 hw1=>(xZ s0 w1 hs hbig (hL.later (hw1.base (by first | exact hws | exact .tail _ hws | exact .tail _ (.tail _ hws) | exact .tail _ (.tail _ (.tail _ hws)))))).mono fun e w2 ⟨q,h1,h2,h3⟩=>by rw [hrd] at h1 h3; obtain ⟨A1,c1,rfl,_⟩:=id h3; exact ⟨_,h1,h2,A1,c1,rfl,h3⟩) fun v23 wa23 wb23 hm23 hl23 hR23=>?_
 obtain ⟨A23,c23,rfl,hr23⟩:=hR23
 refine Rn [0,20,20,1,1,2,5,3,0,37,2,10] fun b27 hb27=>Aw (fun hc27=>?_) fun hc27=>?_
 ·exfalso
  rw [hb27] at hc27
  revert hc27; simp
 simp only [hb27,Qz,ne_eq] at hc27
 refine Rn [23,0,11,4,7] ?_
 refine gB (fun (b:Nat) v _ _=>v=.map (some b)) (fun b=>(b,Obj.map esO ckO)::((Bk pO (cJ pF s.tol mO) 38)::(mO,Obj.map esO ckO)::(mF,Obj.map esF ckF)::(Bk pF (bP mF money) 125)::(FB 130 ms++L))) rfl rfl Tryz.func61 Zk rfl (fun w1 hw1=>(Tryz.maps_Clone_at mO esO ckO w1 (hw1.own_at _ (.tail _ (.head _)))).mono fun e w2 ⟨h1,h2⟩=>⟨_,h1,w1.heap.size,rfl,by rw [h2]; exact hw1.new _⟩) ?_
 rintro _ pN wa33 wb33 hm33 rfl _
 refine Rn [1,9] ?_
 refine mj rfl rfl rfl ?_
 intro p34
 refine Rn [1,2,5,3,0,31,0,2,14] ?_
 refine aO (σ:=Nat×Array MapEntry×Nat×(Int→Option Int)×Array MapEntry×Nat×List EN) (fun z=>z.1≤ls.length∧MapF Tryz.prog 3 z.2.1 (fFr z.2.2.2.1)∧MapC Tryz.prog 3 z.2.2.2.2.1 z.2.2.2.2.2.1 (fR z.2.2.2.2.2.2)∧mI s.tol (bW ms) s.L (fun _=>none) ls=mI s.tol (bW ms) z.2.2.2.2.2.2 z.2.2.2.1 (ls.drop z.1)∧(∀ e∈z.2.2.2.2.2.2,xC e)∧(∀ id v,z.2.2.2.1 id=some v→0≤v∧v≤1000000000000000+(z.1:Int)*10000000000000)) (fun z=>[(0,Pt pO),(5,Value.slice A23 ls.length c23),(7,Value.map (some pN)),(8,Value.map (some p34)),(35,Value.slice A23 ls.length c23),(36,Vi (ls.length:Nat)),(37,Vi (z.1:Nat))]) (fun z=>(p34,Obj.map z.2.1 z.2.2.1)::(pN,Obj.map z.2.2.2.2.1 z.2.2.2.2.2.1)::(Bk pO (cJ pF s.tol mO) 38)::(mO,Obj.map esO ckO)::(mF,Obj.map esF ckF)::(Bk pF (bP mF money) 125)::(FB 130 ms++L)) (fun z=>(wb33,a7 ((pN,Obj.map esO ckO)::((Bk pO (cJ pF s.tol mO) 38)::(mO,Obj.map esO ckO)::(mF,Obj.map esF ckF)::(Bk pF (bP mF money) 125)::(FB 130 ms++L))))::(wb23,a7 ((Bk pO (cJ pF s.tol mO) 38)::(mO,Obj.map esO ckO)::(mF,Obj.map esF ckF)::(Bk pF (bP mF money) 125)::(FB 130 ms++L)))::ro) (fun z=>ls.length - z.1) ((0,#[],0,(fun _=>none),esO,ckO,s.L)) (⟨Nat.zero_le _,by rw [fFr_none]; exact MapF.empty,hO,rfl,hok.L,fun id v h=>by cases h⟩) (aC Zu (fun _ h=>h)) ?_
 rintro ⟨k,es8,ck8,fr,esN,ckN,M⟩ ⟨hk,hM8,hMN,hgo,hen,hfr⟩
 refine Rn [144] ?_
 dsimp only at hk hM8 hMN hgo hen hfr
 refine Rn [3,24,2,5,12] fun b38 hb38=>Aw (fun hc38=>?_) fun hc38=>?_
 ·have hkl:k < ls.length:=by omega
  obtain ⟨lb,lo,hlA,hlD,hlc,hlok⟩:=jW hr23 (k:=k) hkl
  obtain ⟨⟨⟨c1,c2⟩,p1⟩,p2,i1,i2⟩:=hlns ls[k] (List.getElem_mem hkl)
  have hlsk:ls[k]∈ls:=List.getElem_mem hkl
  obtain ⟨ln,hln⟩:∃ q,ls[k]=q:=⟨_,rfl⟩
  rw [hln] at c1 c2 p1 p2 i1 i2 hlsk
  have hlid:aj ln.id:=by unfold aj; omega
  obtain ⟨o,ho⟩:∃ o,cq M ln.id=o:=⟨_,rfl⟩
  have hoN:∀ e,o=some e→dm e.1:=fun e he=>(hen e (bL (ho.trans he)).1).1
  have hstep:mI s.tol (bW ms) s.L (fun _=>none) ls=_:=(hgo.trans (congrArg (fun q=>mI s.tol (bW ms) M fr q) ((xX hkl).trans (congrArg (fun q=>q::ls.drop (k+1)) hln)))).trans (goI_cons ho)
  refine Rn [16,5,14,3] ?_
  refine Xv rfl (ae qx cm (congrArg (fun A=>some (Value.slice A ls.length c23)) hlA) rfl Zo rfl) (Xv rfl (bj (vs:=ln.cells) f4 rfl cm rfl (fun i hi=>an (.tail _ (.head _)) (fun q hq e=>by have:=hm23.lt hq; omega) (by rw [← hln]; exact hlc i hi))) ?_)
  refine Rn [28,32,9,0,4,7] fun p10=>?_
  refine Xv (v:=Value.tuple #[yV (zw o).1 (zw o).2,.bool o.isSome]) rfl (cI oc (Maps.int_keyed u3) f0 rfl rfl (Maps.keyOf_int_mk u3 (cG hlid)) (cf (.tail _ (.tail _ (.head _)))) hMN.f (by rw [cd,ho]; cases o <;> rfl) (by rw [cd,ho,Option.isSome_map])) ?_
  refine Rn [0,20,48,28,32,1,2,5,3,0,39,39,0] fun b47 hb47 p11=>?_
  obtain rfl:b47=o.isSome:=hb47
  refine np (vs:=[Pt pO,.agg ln.cells.toArray,.agg (bu (zw o).1 (zw o).2).toArray,.bool o.isSome]) (v:=Vi (bA s.tol ln o)) rfl rfl rfl Tryz.func62 Zk rfl (fun w1 hw1=>g_checkU ln o w1 (aa (vs:=cJ pF s.tol mO) (.tail _ (.tail _ (.tail _ (.tail _ (.head _))))) rfl w1 hw1) htol ⟨p1,p2⟩ hoN) ?_
  refine Rn [1,9,0,37,2,12] fun b54 hb54=>Aw (fun hc54=>?_) fun hc54=>?_
  ·refine Rn [3,0,1,2,6,8,15,8,8,15,8] ?_
   refine aw rfl rfl (fun w' hm'=>?_)
   have hG:(mI s.tol (bW ms) s.L (fun _=>none) ls).1=bA s.tol ln o:=by rw [hstep,if_pos hc54]
   rw [show (aF s ls 0)=(bA s.tol ln o,s) from by unfold aF; rw [if_neg (by decide),← hfs,if_pos (by rw [hG]; exact hc54),hG]]
   exact ⟨rfl,(mO,esO,ckO,ms),⟨hO,hfs,rfl,rfl⟩,hm'.less (((Ls.trans Ls).trans Ls).trans Ls) (fun _ h=>.tail _ (.tail _ h))⟩
  obtain ⟨⟨x,first⟩,rfl⟩:∃ z,o=some z:=by
   cases o with
   | none=>exact absurd (show (32:Int)=0 from hc54) (by decide)
   | some z=>exact ⟨z,rfl⟩
  obtain ⟨hx,hfi⟩:=hen _ (bL ho).1
  obtain ⟨⟨o1,o2⟩,⟨o3,o4⟩,⟨o5,o6⟩,⟨o7,o8⟩,⟨o9,o10⟩,⟨o11,o12⟩,⟨o13,o14⟩,⟨o15,o16⟩,o17,o18⟩:=show dm x from hx
  have hxf:aj x.fund:=by unfold aj; omega
  obtain ⟨⟨k1,k2⟩,⟨k3,k4⟩,k5⟩:=oP (c:=ln.copies) (p:=x.price) (q:=ln.price) ⟨c1,c2⟩ ⟨o1,o2⟩ ⟨p1,p2⟩
  have hle:=lY (tol:=s.tol) (ln:=ln) (x:=x) (first:=first) hc54
  obtain ⟨v1,v2⟩:=frG_rng hfk (B:=(k:Int)*10000000000000) (by omega) hfr x.fund
  have hk999:(k:Int)≤999:=by omega
  rw [if_neg (fun q=>q hc54)] at hstep
  dsimp only at hstep
  have hhere:(cq M x.id).isSome=true:=by rw [show x.id=ln.id from (bL ho).2,ho]; rfl
  refine Rn [16] ?_
  refine cO (σ:=Array MapEntry×Nat×(Int→Option Int)) (fun z18=>MapF Tryz.prog 3 z18.1 (fFr z18.2.2)∧z18.2.2 x.fund=some (sK (bW ms) fr x.fund)∧∀ v,qc z18.2.2 x.fund v=qc fr x.fund v) (fun z18=>[(0,Pt pO),(5,Value.slice A23 ls.length c23),(7,Value.map (some pN)),(8,Value.map (some p34)),(10,Pt p10),(11,Pt p11),(35,Value.slice A23 ls.length c23),(36,Vi (ls.length:Nat)),(37,Vi (k:Nat))]) (fun z18=>(Bk p11 (bu x first) 100)::(Bk p10 ln.cells 25)::(p34,Obj.map z18.1 z18.2.1)::(pN,Obj.map esN ckN)::(Bk pO (cJ pF s.tol mO) 38)::(mO,Obj.map esO ckO)::(mF,Obj.map esF ckF)::(Bk pF (bP mF money) 125)::(FB 130 ms++L)) (fun z18=>(wb33,a7 ((pN,Obj.map esO ckO)::((Bk pO (cJ pF s.tol mO) 38)::(mO,Obj.map esO ckO)::(mF,Obj.map esF ckF)::(Bk pF (bP mF money) 125)::(FB 130 ms++L))))::(wb23,a7 ((Bk pO (cJ pF s.tol mO) 38)::(mO,Obj.map esO ckO)::(mF,Obj.map esF ckF)::(Bk pF (bP mF money) 125)::(FB 130 ms++L)))::ro) ?_ ?_
  ·refine Zs ?_
   refine ey _ ((Bk p11 (bu x first) 100)::(Bk p10 ln.cells 25)::(p34,Obj.map es8 ck8)::(pN,Obj.map esN ckN)::(Bk pO (cJ pF s.tol mO) 38)::(mO,Obj.map esO ckO)::(mF,Obj.map esF ckF)::(Bk pF (bP mF money) 125)::(FB 130 ms++L)) _ ?_
   refine Rn [18,0,4,4,7] ?_
   refine Xv (v:=Value.tuple #[Vi ((fr x.fund).getD 0),.bool (fr x.fund).isSome]) rfl (cI Aq (Maps.int_keyed u3) rP rfl rfl (Maps.keyOf_int_mk u3 (cG hxf)) (cf (.tail _ (.tail _ (.head _)))) hM8 (by show ((fr x.fund).map _).getD _=_; cases fr x.fund <;> rfl) (by show ((fr x.fund).map _).isSome=_; rw [Option.isSome_map])) ?_
   refine Rn [0,20,48,1,1,9,0,43,2,10] fun b63 hb63 b65 hb65=>Aw (fun hc65=>?_) fun hc65=>?_
   ·have hun:fr x.fund=none:=by
     rw [hb65,hb63] at hc65
     simpa using hc65
    refine bc 12 ?_
    refine Rn [0,4,4,7,0,11,4,7,4,4,7] ?_
    refine Xc rfl Tryz.func31 rfl (fun w1 hw1=>g_Free hw1 hF Zh Zh (fun p hp=>by simp [hp]) hfk x.fund hxf) ?_
    refine mT [(Bk p11 (bu x first) 100),(Bk p10 ln.cells 25)] (l2:=(pN,Obj.map esN ckN)::(Bk pO (cJ pF s.tol mO) 38)::(mO,Obj.map esO ckO)::(mF,Obj.map esF ckF)::(Bk pF (bP mF money) 125)::(FB 130 ms++L)) (es:=es8) (clock:=ck8) rfl rfl rfl rfl Aq (Maps.int_keyed u3) (Maps.keyOf_int_mk u3 (cG hxf)) rfl hM8 ?_
    intro es66 clock66 hmf66
    refine Ze ?_
    exact cv (es66,clock66,qc fr x.fund (gb (bW ms) x.fund)) ⟨by rw [xW] at hmf66; exact hmf66,by show qc fr x.fund _ x.fund=_; unfold qc sK; rw [if_pos rfl,hun],fun v=>frS_frS⟩ Zu (fun _ h=>h)
   have hkn:∃ v,fr x.fund=some v:=by
    rw [hb65,hb63] at hc65
    exact Option.isSome_iff_exists.1 (by simpa using hc65)
   refine eA ?_
   obtain ⟨v9,hv9⟩:=hkn
   exact cv (es8,ck8,fr) ⟨hM8,by show fr x.fund=some _; unfold sK; rw [hv9],fun v=>rfl⟩ Zu (fun _ h=>h)
  rintro ⟨es9,ck9,fr9⟩ ⟨hz1,hz2,hz3⟩
  refine Rn [144] ?_
  dsimp only at hz1 hz2 hz3
  refine Rn [3,0,4,4,7] ?_
  refine Xv (v:=Vi (sK (bW ms) fr x.fund)) rfl (cw Aq (Maps.int_keyed u3) rP rfl rfl (Maps.keyOf_int_mk u3 (cG hxf)) (cf (.tail _ (.tail _ (.head _)))) hz1 (by show ((fr9 x.fund).map _).getD _=_; rw [hz2]; rfl)) ?_
  refine Rn [4,7,4,4,7,4,7,54] ?_
  refine Xv rfl (cY rfl rfl rfl Zo) ?_
  refine Rn [26] ?_
  refine mT [(Bk p11 (bu x first) 100),(Bk p10 ln.cells 25)] (l2:=(pN,Obj.map esN ckN)::(Bk pO (cJ pF s.tol mO) 38)::(mO,Obj.map esO ckO)::(mF,Obj.map esF ckF)::(Bk pF (bP mF money) 125)::(FB 130 ms++L)) (es:=es9) (clock:=ck9) rfl rfl rfl rfl Aq (Maps.int_keyed u3) (Maps.keyOf_int_mk u3 (cG hxf)) rfl hz1 ?_
  intro es78 clock78 hmf78
  refine Rn [2,5,3,0,4,4,7] ?_
  refine Xv (v:=Vi ((sK (bW ms) fr x.fund)+ln.copies*(x.price - ln.price))) rfl (cw Aq (Maps.int_keyed u3) rP rfl rfl (Maps.keyOf_int_mk u3 (cG hxf)) (cf (.tail _ (.tail _ (.head _)))) hmf78 (by rw [dP]; rfl)) ?_
  refine Rn [24,2,12] fun b98 hb98=>Aw (fun hc98=>?_) fun hc98=>?_
  ·refine Rn [3,1,2,6,8,15,8,8,15,8] ?_
   refine aw rfl rfl (fun w' hm'=>?_)
   have hG:(mI s.tol (bW ms) s.L (fun _=>none) ls).1=60:=by rw [hstep,if_pos (by omega)]
   rw [show (aF s ls 0)=(60,s) from by unfold aF; rw [if_neg (by decide),← hfs,if_pos (by rw [hG]; decide),hG]]
   exact ⟨rfl,(mO,esO,ckO,ms),⟨hO,hfs,rfl,rfl⟩,hm'.less (((Ls.trans Ls).trans Ls).trans Ls) (fun _ h=>.tail _ (.tail _ h))⟩
  refine Rn [23,4,4,7,4,7,26,4,4] ?_
  refine aG (cs:=bu x first) (off:=7) (e:=100) (l2:=(Bk p10 ln.cells 25)::(p34,Obj.map es78 clock78)::(pN,Obj.map esN ckN)::(Bk pO (cJ pF s.tol mO) 38)::(mO,Obj.map esO ckO)::(mF,Obj.map esF ckF)::(Bk pF (bP mF money) 125)::(FB 130 ms++L)) [] rfl rfl rfl rfl cT rfl (by show 8≤10; decide) ?_
  refine Rn [2] ?_
  refine ey _ ((Bk p11 (bu { x with paid:=x.paid+ln.copies } first) 100)::(Bk p10 ln.cells 25)::(p34,Obj.map es78 clock78)::(pN,Obj.map esN ckN)::(Bk pO (cJ pF s.tol mO) 38)::(mO,Obj.map esO ckO)::(mF,Obj.map esF ckF)::(Bk pF (bP mF money) 125)::(FB 130 ms++L)) _ ?_
  refine Rn [18,0,4,7,39] ?_
  refine gm [(Bk p11 (bu { x with paid:=x.paid+ln.copies } first) 100),(Bk p10 ln.cells 25),(p34,Obj.map es78 clock78)] (l2:=(Bk pO (cJ pF s.tol mO) 38)::(mO,Obj.map esO ckO)::(mF,Obj.map esF ckF)::(Bk pF (bP mF money) 125)::(FB 130 ms++L)) (es:=esN) (clock:=ckN) rfl rfl rfl rfl oc (Maps.int_keyed u3) (Maps.keyOf_int_mk u3 (cG hlid)) rfl hMN ?_
  intro es107 clock107 hmf107
  refine Rn [13,27,17,18,26,0,13] ?_
  have hM7:MapC Tryz.prog 3 es107 clock107 (fR (dl M ({ x with paid:=x.paid+ln.copies },first))):=by
   rw [← nA (y:=({ x with paid:=x.paid+ln.copies },first)) hhere]
   have h:=hmf107
   rw [show ln.id=x.id from (bL ho).2.symm] at h
   exact h
  have hF7:MapF Tryz.prog 3 es78 (fFr (qc fr x.fund ((sK (bW ms) fr x.fund)+ln.copies*(x.price - ln.price)))):=by
   have h:=hmf78
   rw [xW,hz3] at h
   exact h
  exact aJ (k+1,es78,clock78,qc fr x.fund ((sK (bW ms) fr x.fund)+ln.copies*(x.price - ln.price)),es107,clock107,dl M ({ x with paid:=x.paid+ln.copies },first)) ⟨hkl,hF7,hM7,by rw [hstep,if_neg (by omega)],fun e he=>by rcases gX he with he | rfl; (· exact hen e he); exact ⟨kr hx ⟨by omega,hle.1⟩,hfi⟩,fun id v h=>by
   have h:qc fr x.fund ((sK (bW ms) fr x.fund)+ln.copies*(x.price - ln.price)) id=some v:=h
   unfold qc at h
   split at h
   ·injection h with h; subst h; refine ⟨by omega,?_⟩; dsimp only; push_cast; omega
   have:=hfr id v h; refine ⟨this.1,?_⟩; dsimp only; push_cast; omega⟩ (by simp only; omega) Zu (fun w1 h=>h.less (Ls.trans Ls) (fun _ h=>h))
 obtain rfl:k=ls.length:=by omega
 rw [List.drop_length] at hgo
 have hG0:mI s.tol (bW ms) s.L (fun _=>none) ls=(0,M):=hgo
 refine Rn [34,19,19,35,17,5,3,0,31,0,2,14] ?_
 refine aO (σ:=Nat×List FM) (fun z=>z.1≤ls.length∧bW z.2=(ls.take z.1).foldl (kZ s.L) (bW ms)∧cC z.2=cC ms∧∀ f∈bW z.2,aR f.s) (fun z=>[(0,Pt pO),(7,Value.map (some pN)),(112,Value.slice A23 ls.length c23),(113,Vi (ls.length:Nat)),(114,Vi (z.1:Nat))]) (fun z=>(pN,Obj.map esN ckN)::(Bk pO (cJ pF s.tol mO) 38)::(mO,Obj.map esO ckO)::(mF,Obj.map esF ckF)::(Bk pF (bP mF money) 125)::(FB 130 z.2++L)) (fun z=>(wb33,a7 ((pN,Obj.map esO ckO)::((Bk pO (cJ pF s.tol mO) 38)::(mO,Obj.map esO ckO)::(mF,Obj.map esF ckF)::(Bk pF (bP mF money) 125)::(FB 130 ms++L))))::(wb23,a7 ((Bk pO (cJ pF s.tol mO) 38)::(mO,Obj.map esO ckO)::(mF,Obj.map esF ckF)::(Bk pF (bP mF money) 125)::(FB 130 ms++L)))::ro) (fun z=>ls.length - z.1) ((0,ms)) (⟨Nat.zero_le _,rfl,rfl,hfk⟩) (aC Zu (fun _ h=>h.less Ls (fun _ h=>h))) ?_
 rintro ⟨k2,m2⟩ ⟨hk2,hg1,hg2,hg3⟩
 refine Rn [144] ?_
 dsimp only at hk2 hg1 hg2 hg3
 refine Rn [3,24,2,5,12] fun b115 hb115=>Aw (fun hc115=>?_) fun hc115=>?_
 ·have hkl:k2 < ls.length:=by omega
  obtain ⟨lb,lo,hlA,hlD,hlc,hlok⟩:=jW hr23 (k:=k2) hkl
  obtain ⟨⟨⟨c1,c2⟩,p1⟩,p2,i1,i2⟩:=hlns ls[k2] (List.getElem_mem hkl)
  have hlsk:ls[k2]∈ls:=List.getElem_mem hkl
  obtain ⟨ln,hln⟩:∃ q,ls[k2]=q:=⟨_,rfl⟩
  rw [hln] at c1 c2 p1 p2 i1 i2 hlsk
  have hlid:aj ln.id:=by unfold aj; omega
  obtain ⟨⟨x,first⟩,ho⟩:=Option.isSome_iff_exists.1 (uI (by rw [hG0]) ln hlsk)
  obtain ⟨hx,hfi⟩:=hok.at ho
  obtain ⟨⟨o1,o2⟩,⟨o3,o4⟩,⟨o5,o6⟩,⟨o7,o8⟩,⟨o9,o10⟩,⟨o11,o12⟩,⟨o13,o14⟩,⟨o15,o16⟩,o17,o18⟩:=show dm x from hx
  have hxf:aj x.fund:=by unfold aj; omega
  obtain ⟨⟨k1,k2_⟩,⟨k3,k4⟩,k5⟩:=oP (c:=ln.copies) (p:=x.price) (q:=ln.price) ⟨c1,c2⟩ ⟨o1,o2⟩ ⟨p1,p2⟩
  have hF2:MapF Tryz.prog 3 esF (cC m2):=by rw [hg2]; exact hF
  refine Rn [16,5,14,3] ?_
  refine Xv rfl (ae qx cm (congrArg (fun A=>some (Value.slice A ls.length c23)) hlA) rfl Zo rfl) (Xv rfl (bj (vs:=ln.cells) f4 rfl cm rfl (fun i hi=>an (.tail _ (.head _)) (fun q hq e=>by have:=hm23.lt hq; omega) (by rw [← hln]; exact hlc i hi))) ?_)
  refine Rn [28,32,2,5] fun p17=>?_
  refine cL ((Bk p17 ln.cells 25)::(pN,Obj.map esN ckN)::(Bk pO (cJ pF s.tol mO) 38)::(mO,Obj.map esO ckO)::(mF,Obj.map esF ckF)::(Bk pF (bP mF money) 125)::(FB 130 m2++L)) 9 (.flt 0 (.flt 1 (.flt 2 (.flt 3 (.flt 4 (.flt 5 (.flt 6 (.gr 7 (.gr 8 .done .nil) .nil)))))))) (.refl _) Zk Zk ?_
  refine Rn [44,65,41,49,41,49] ?_
  refine dq (v:=yV x first) rfl rfl (cw oc (Maps.int_keyed u3) f0 rfl rfl (Maps.keyOf_int_mk u3 (cG hlid)) (cf (.tail _ (.tail _ (.tail _ (.head _))))) hO.f (by rw [cd,ho]; rfl)) ?_
  refine Rn [42,28,13,58,42,32,13,58,56,2,5] fun p18=>?_
  refine ey _ ((Bk p18 (bu x first) 100)::(Bk p17 ln.cells 25)::(pN,Obj.map esN ckN)::(Bk pO (cJ pF s.tol mO) 38)::(mO,Obj.map esO ckO)::(mF,Obj.map esF ckF)::(Bk pF (bP mF money) 125)::(FB 130 m2++L)) _ ?_
  refine bc 13 ?_
  refine Rn [0,11,4,7,4,4,7,4,7,4,4,7] ?_
  refine Xv rfl (cY rfl rfl rfl Zo) ?_
  refine aI (τ:=List FM) (v:=Vi (ap aS (bW m2) x.fund (ln.copies*x.price)).1) (fun q=>bW q=(ap aS (bW m2) x.fund (ln.copies*x.price)).2∧cC q=cC m2) (fun q=>(Bk p18 (bu x first) 100)::(Bk p17 ln.cells 25)::(pN,Obj.map esN ckN)::(Bk pO (cJ pF s.tol mO) 38)::(mO,Obj.map esO ckO)::(mF,Obj.map esF ckF)::(Bk pF (bP mF money) 125)::(FB 130 q++L)) rfl rfl Tryz.func58 Zk rfl (fun w1 hw1=>g_rel (l1:=[(Bk p18 (bu x first) 100),(Bk p17 ln.cells 25),(pN,Obj.map esN ckN),(Bk pO (cJ pF s.tol mO) 38),(mO,Obj.map esO ckO),(mF,Obj.map esF ckF),(Bk pF (bP mF money) 125)]) (ms:=m2) hw1 hF2 Zh Zh hg3 (x.fund) (by unfold aj; omega) (ln.copies*x.price)) fun m138 hm138=>?_
  have hF3:MapF Tryz.prog 3 esF (cC m138):=by rw [hm138.2]; exact hF2
  have hg4:∀ f∈bW m138,aR f.s:=by rw [hm138.1]; exact fh (fun f n=>mD) hg3
  refine Rn [2] ?_
  refine bc 12 ?_
  refine Rn [0,11,4,7,4,4,7,4,7,4,7] ?_
  refine Xv rfl (cY rfl rfl rfl Zo) ?_
  refine aI (τ:=List FM) (v:=Vi (ap bK (bW m138) x.fund (ln.copies*ln.price)).1) (fun q=>bW q=(ap bK (bW m138) x.fund (ln.copies*ln.price)).2∧cC q=cC m138) (fun q=>(Bk p18 (bu x first) 100)::(Bk p17 ln.cells 25)::(pN,Obj.map esN ckN)::(Bk pO (cJ pF s.tol mO) 38)::(mO,Obj.map esO ckO)::(mF,Obj.map esF ckF)::(Bk pF (bP mF money) 125)::(FB 130 q++L)) rfl rfl Tryz.func63 Zk rfl (fun w1 hw1=>g_spd (l1:=[(Bk p18 (bu x first) 100),(Bk p17 ln.cells 25),(pN,Obj.map esN ckN),(Bk pO (cJ pF s.tol mO) 38),(mO,Obj.map esO ckO),(mF,Obj.map esF ckF),(Bk pF (bP mF money) 125)]) (ms:=m138) hw1 hF3 Zh Zh hg4 (x.fund) (by unfold aj; omega) (ln.copies*ln.price)) fun m151 hm151=>?_
  refine Rn [13,27,17,18,26,0,13] ?_
  exact aJ (k2+1,m151) ⟨hkl,by dsimp only; rw [we _ _ hkl,hln,← hg1,hm151.1,hm138.1]; unfold kZ; rw [ho],(hm151.2.trans hm138.2).trans hg2,by dsimp only; rw [hm151.1]; exact fh (fun f n=>vH) hg4⟩ (by simp only; omega) Zu (fun w1 h=>h.less (Ls.trans Ls) (fun _ h=>h))
 obtain rfl:k2=ls.length:=by omega
 rw [List.take_length] at hg1
 refine Rn [34,19,19,35,17,3,0,0,11,4] ?_
 refine aG (cs:=cJ pF s.tol mO) (off:=2) (e:=38) (l2:=(mO,Obj.map esO ckO)::(mF,Obj.map esF ckF)::(Bk pF (bP mF money) 125)::(FB 130 m2++L)) [(pN,Obj.map esN ckN)] rfl rfl rfl rfl sz36 rfl (by show 3≤3; decide) ?_
 refine Rn [9,1,2,6] ?_
 refine aw rfl rfl (fun w' hm'=>?_)
 rw [show (aF s ls 0)=(0,⟨ls.foldl (kZ s.L) (bW ms),s.tol,M⟩) from by unfold aF; rw [if_neg (by decide),← hfs,hG0,if_neg (fun q=>q rfl)]]
 exact ⟨rfl,(pN,esN,ckN,m2),⟨hMN,hg1,hg2,rfl⟩,(hm'.perm (List.Perm.swap _ _ _)).less (List.Sublist.cons_cons _ (List.Sublist.cons_cons _ Ls)) (fun _ h=>.tail _ (.tail _ h))⟩
theorem g_PayE {w:World} {L:List (Nat×Obj)} {ro:List av} {mF pF pO mO ckF ckO:Nat} {esF esO:Array MapEntry} {money:Int} {ms:List FM} {s:SG} (hm:Mem w ((Bk pO (cJ pF s.tol mO) 38)::(mO,Obj.map esO ckO)::(mF,Obj.map esF ckF)::(Bk pF (bP mF money) 125)::(FB 130 ms++L)) ro) (hF:MapF Tryz.prog 3 esF (cC ms)) (hO:MapC Tryz.prog 3 esO ckO (fR s.L)) (hfs:bW ms=s.fs) (hok:SGok s) {ws:World} (hws:(ws,fun _=>True)∈ro) (hL:LD ws) (s0:ByteArray) (hs:s0.size≤200000000) (hbig:gk (aK s0).1) {ls:List PK.Ord} {c:Int} (hrd:aM s0=(ls,c)) (hc0:c≠0) :
  Calls Tryz.prog 15 #[Pt pO,.string s0] w fun e w'=>e=.returned (Vi (aF s ls c).1)∧∃ q:Nat×Array MapEntry×Nat×List FM,(MapC Tryz.prog 3 q.2.1 q.2.2.1 (fR (aF s ls c).2.L)∧bW q.2.2.2=(aF s ls c).2.fs∧cC q.2.2.2=cC ms∧(aF s ls c).2.tol=s.tol)∧Mem w' ((Bk pO (cJ pF s.tol q.1) 38)::(q.1,Obj.map q.2.1 q.2.2.1)::(mF,Obj.map esF ckF)::(Bk pF (bP mF money) 125)::(FB 130 q.2.2.2++L)) ro:=by
 refine ay hm Tryz.func15 rfl Tryz.ntmps15 rfl ?_
 refine Rn [3,1,2,5,3,0,52,2,10] (Aw (fun hc20=>?_) fun hc20=>?_)
 ·cases hc20
 refine Rn [23,0] ?_
 refine Xd (R:=fun v wa wb=>∃ A1 c1,v=.tuple #[.slice A1 ls.length c1,Vi c]∧ab dE (fun b=>wa.heap.size≤b) wb (.slice A1 ls.length c1) ls) rfl Tryz.func59 rfl (fun w1 hw1=>(xZ s0 w1 hs hbig (hL.later (hw1.base (by first | exact hws | exact .tail _ hws | exact .tail _ (.tail _ hws) | exact .tail _ (.tail _ (.tail _ hws)))))).mono fun e w2 ⟨q,h1,h2,h3⟩=>by rw [hrd] at h1 h3; obtain ⟨A1,c1,rfl,_⟩:=id h3; exact ⟨_,h1,h2,A1,c1,rfl,h3⟩) fun v23 wa23 wb23 hm23 hl23 hR23=>?_
 obtain ⟨A23,c23,rfl,hr23⟩:=hR23
 refine Rn [0,20,20,1,1,2,5,3,0,37,2,10] fun b27 hb27=>Aw (fun hc27=>?_) fun hc27=>?_
 ·simp only [hb27,Qz,ne_eq] at hc27
  refine Rn [3,0,1,2,6,8] ?_
  refine aw rfl rfl (fun w' hm'=>?_)
  rw [show (aF s ls c)=(c,s) from if_pos hc0]
  exact ⟨rfl,(mO,esO,ckO,ms),⟨hO,hfs,rfl,rfl⟩,hm'.less (.refl _) (fun _ h=>.tail _ h)⟩
 exfalso
 rw [hb27] at hc27
 exact absurd (by simpa using hc27) hc0
theorem g_Pay {w:World} {L:List (Nat×Obj)} {ro:List av} {mF pF pO mO ckF ckO:Nat} {esF esO:Array MapEntry} {money:Int} {ms:List FM} {s:SG} (hm:Mem w ((Bk pO (cJ pF s.tol mO) 38)::(mO,Obj.map esO ckO)::(mF,Obj.map esF ckF)::(Bk pF (bP mF money) 125)::(FB 130 ms++L)) ro) (hF:MapF Tryz.prog 3 esF (cC ms)) (hO:MapC Tryz.prog 3 esO ckO (fR s.L)) (hfs:bW ms=s.fs) (hok:SGok s) {ws:World} (hws:(ws,fun _=>True)∈ro) (hL:LD ws) (s0:ByteArray) (hs:s0.size≤200000000) (hbig:gk (aK s0).1):Calls Tryz.prog 15 #[Pt pO,.string s0] w fun e w'=>e=.returned (Vi (aF s (aM s0).1 (aM s0).2).1)∧∃ q:Nat×Array MapEntry×Nat×List FM,(MapC Tryz.prog 3 q.2.1 q.2.2.1 (fR (aF s (aM s0).1 (aM s0).2).2.L)∧bW q.2.2.2=(aF s (aM s0).1 (aM s0).2).2.fs∧cC q.2.2.2=cC ms∧(aF s (aM s0).1 (aM s0).2).2.tol=s.tol)∧Mem w' ((Bk pO (cJ pF s.tol q.1) 38)::(q.1,Obj.map q.2.1 q.2.2.1)::(mF,Obj.map esF ckF)::(Bk pF (bP mF money) 125)::(FB 130 q.2.2.2++L)) ro:=by
 obtain ⟨ls,c,hrd⟩:∃ a c,aM s0=(a,c):=⟨_,_,rfl⟩
 rw [hrd]
 by_cases hc:c=0
 ·subst hc; exact g_PayO hm hF hO hfs hok hws hL s0 hs hbig hrd
 exact g_PayE hm hF hO hfs hok hws hL s0 hs hbig hrd hc
open Go.RowKit Go.PK
structure Fx where
  (pO pF mF ckF:Nat)
  esF:Array MapEntry
  money:Int
structure Sq where
  (mO ck:Nat)
  es:Array MapEntry
  ms:List FM
def Fx.own (x:Fx) (tol:Int) (q:Sq):List (Nat×Obj):=(Bk x.pO (cJ x.pF tol q.mO) 38)::(q.mO,Obj.map q.es q.ck)::(x.mF,Obj.map x.esF x.ckF)::(Bk x.pF (bP x.mF x.money) 125)::FB 130 q.ms
structure Good (x:Fx) (s:SG) (q:Sq):Prop where
  F:MapC Tryz.prog 3 x.esF x.ckF (cC q.ms)
  O:MapC Tryz.prog 3 q.es q.ck (fR s.L)
  fs:bW q.ms=s.fs
  ok:SGok s
section
variable {w:World} {l1 L:List (Nat×Obj)} {ro:List av} {x:Fx} {s:SG} {q:Sq}
theorem pm {tol:Int} {p:Nat×Obj} (h:p∈x.own tol q):p∈l1++(x.own tol q++L):=List.mem_append_right _ (List.mem_append_left _ h)
theorem sQ {tol:Int}:(x.mF,Obj.map x.esF x.ckF)∈l1++(x.own tol q++L):=pm (.tail _ (.tail _ (.head _)))
theorem x1 {tol:Int}:(Bk x.pF (bP x.mF x.money) 125)∈l1++(x.own tol q++L):=pm (.tail _ (.tail _ (.tail _ (.head _))))
theorem sR {tol:Int} {p:Nat×Obj} (h:p∈FB 130 q.ms):p∈l1++(x.own tol q++L):=pm (.tail _ (.tail _ (.tail _ (.tail _ h))))
def Out (x:Fx) (tol:Int) (l1 L:List (Nat×Obj)) (ro:List av) (R:Int×SG) (e:Ending) (w':World):Prop:=e=.returned (Vi R.1)∧∃ q,Good x R.2 q∧Mem w' (l1++(x.own tol q++L)) ro
theorem x2 (hm:Mem w (l1++(x.own s.tol q++L)) ro) (hg:Good x s q) {ws:World} (hws:(ws,fun _=>True)∈ro) (hL:LD ws) (y:PK.Ord) (hy:y.okA) (hlen:s.L.length≤4000):Calls Tryz.prog 12 #[Pt x.pO,.agg y.cells.toArray] w (Out x s.tol l1 L ro (aD s y)):=by
 refine (g_Place (L:=l1++L) (mO:=q.mO) (ckO:=q.ck) (esO:=q.es) (ms:=q.ms) hm.front hg.F.f hg.O hg.fs hg.ok hws hL y hy hlen).mono ?_
 rintro e w2 ⟨h1,r,⟨h2,h3,h4,h5⟩,h6⟩
 exact ⟨h1,⟨q.mO,r.2.1,r.1,r.2.2⟩,⟨by rw [h4]; exact hg.F,h2,h3,ux hg.ok y⟩,Mem.front (a:=x.own s.tol ⟨q.mO,r.2.1,r.1,r.2.2⟩) h6⟩
theorem rf (hm:Mem w (l1++(x.own s.tol q++L)) ro) (hg:Good x s q) {id:Int} (hid:aj id) (n:Int) (hn:aj n):Calls Tryz.prog 14 #[Pt x.pO,Vi id,Vi n] w (Out x s.tol l1 L ro (ar s id n)):=by
 refine (zh (L:=l1++L) (mO:=q.mO) (ckO:=q.ck) (esO:=q.es) (ms:=q.ms) hm.front hg.F.f hg.O hg.fs hg.ok hid n hn).mono ?_
 rintro e w2 ⟨h1,r,⟨h2,h3,h4,h5⟩,h6⟩
 exact ⟨h1,⟨q.mO,r.2.1,r.1,r.2.2⟩,⟨by rw [h4]; exact hg.F,h2,h3,pi hg.ok id⟩,Mem.front (a:=x.own s.tol ⟨q.mO,r.2.1,r.1,r.2.2⟩) h6⟩
theorem uK (hm:Mem w (l1++(x.own s.tol q++L)) ro) (hg:Good x s q) {id:Int} (hid:aj id):Calls Tryz.prog 16 #[Pt x.pO,Vi id] w (Out x s.tol l1 L ro (aE s id)):=by
 refine (g_Cancel (L:=l1++L) (mO:=q.mO) (ckO:=q.ck) (esO:=q.es) (ms:=q.ms) hm.front hg.F.f hg.O hg.fs hg.ok hid).mono ?_
 rintro e w2 ⟨h1,r,⟨h2,h3,h4,h5⟩,h6⟩
 exact ⟨h1,⟨q.mO,r.2.1,r.1,r.2.2⟩,⟨by rw [h4]; exact hg.F,h2,h3,rb hg.ok id⟩,Mem.front (a:=x.own s.tol ⟨q.mO,r.2.1,r.1,r.2.2⟩) h6⟩
theorem pn (hm:Mem w (l1++(x.own s.tol q++L)) ro) (hg:Good x s q) {ws:World} (hws:(ws,fun _=>True)∈ro) (hL:LD ws) (t:ByteArray) (hs:t.size≤200000000) (hbig:gk (aK t).1):Calls Tryz.prog 13 #[Pt x.pO,.string t] w (Out x s.tol l1 L ro (ah s (bn t).1 (bn t).2)):=by
 refine (g_Answer (L:=l1++L) (mO:=q.mO) (ckO:=q.ck) (esO:=q.es) (ms:=q.ms) hm.front hg.F.f hg.O hg.fs hg.ok hws hL t hs hbig).mono ?_
 rintro e w2 ⟨h1,r,⟨h2,h3,h4,h5⟩,h6⟩
 exact ⟨h1,⟨q.mO,r.2.1,r.1,r.2.2⟩,⟨by rw [h4]; exact hg.F,h2,h3,ra hg.ok (kx t).1 (kx t).2⟩,Mem.front (a:=x.own s.tol ⟨q.mO,r.2.1,r.1,r.2.2⟩) h6⟩
theorem mJ (hm:Mem w (l1++(x.own s.tol q++L)) ro) (hg:Good x s q) {ws:World} (hws:(ws,fun _=>True)∈ro) (hL:LD ws) (t:ByteArray) (hs:t.size≤200000000) (hbig:gk (aK t).1):Calls Tryz.prog 15 #[Pt x.pO,.string t] w (Out x s.tol l1 L ro (aF s (aM t).1 (aM t).2)):=by
 refine (g_Pay (L:=l1++L) (mO:=q.mO) (ckO:=q.ck) (esO:=q.es) (ms:=q.ms) hm.front hg.F.f hg.O hg.fs hg.ok hws hL t hs hbig).mono ?_
 rintro e w2 ⟨h1,r,⟨h2,h3,h4,h5⟩,h6⟩
 exact ⟨h1,⟨r.1,r.2.2.1,r.2.1,r.2.2.2⟩,⟨by rw [h4]; exact hg.F,h2,h3,vT hg.ok (fun ln h=>by have:=(kw ln h).1.1; omega)⟩,Mem.front (a:=x.own s.tol ⟨r.1,r.2.2.1,r.2.1,r.2.2.2⟩) h6⟩
end
open Go.RowKit Go.PK
theorem x3 {w:World} {L:List (Nat×Obj)} {ro:List av} {pF:Nat} {money:Int} (g:FG) (hid:aj g.id) (hmn:-1000000000000000000≤money+g.s.al∧money+g.s.al≤1000000000000000000) (hm:Mem w ((Bk pF [Value.map none,Vi money] 125)::L) ro) :
  Calls Tryz.prog 67 #[Pt pF,.agg (eN g).toArray] w fun e w'=>∃ v,e=.returned v∧∃ x:Nat×Nat×Array MapEntry×Nat,(v=Pt x.1∧MapC Tryz.prog 3 x.2.2.1 x.2.2.2 (ir (fun _=>none) (Vi g.id) (Pt x.1)))∧Mem w' ((Bk x.1 (wh g) 130)::(Bk pF (bP x.2.1 (money+g.s.al)) 125)::(x.2.1,Obj.map x.2.2.1 x.2.2.2)::L) ro:=by
 refine ay hm Tryz.func67 rfl Tryz.ntmps67 rfl ?_
 refine Rn [3,36,1,2,5,3,0,11,4,7] fun p3=>?_
 refine Xv (v:=Value.bool true) rfl (v_eqm (p:=none) dw rfl rfl) ?_
 refine Rn [2,10] (Aw (fun hc10=>?_) fun hc10=>?_)
 ·refine Zr (Xm ?_)
  refine mj rfl rfl rfl ?_
  intro p12
  refine Rn [11,4] ?_
  refine aG (cs:=[Value.map none,Vi money]) (off:=0) (e:=125) (l2:=L) [(p12,Obj.map #[] 0),(Bk p3 (eN g) 71)] rfl rfl rfl rfl sz123 rfl (by show 1≤2; decide) ?_
  refine Rn [9] ?_
  refine Xv rfl (bS wT rfl rfl (by first | exact .head _ | exact .tail _ (.head _) | exact .tail _ (.tail _ (.head _)) | (repeat (first | exact List.Mem.head _ | apply List.Mem.tail | apply List.mem_append_right))) (by exact mo)) (Xv (v:=Value.agg (wh g).toArray) rfl (aH (cs:=wh g) (places:=[(0,5),(5,1)]) u130 wP Zk rfl rfl) ?_)
  refine Rn [36,1,2,5] fun p17=>?_
  refine bc 7 ?_
  refine Rn [0,11,4,51,4,51,0] ?_
  refine gm [(Bk p17 (wh g) 130)] rfl rfl rfl rfl dw (Maps.int_keyed u3) (Maps.keyOf_int_mk u3 (cG hid)) rfl MapC.empty ?_
  intro es21 clock21 hmf21
  refine Rn [2,5] ?_
  refine bc 9 ?_
  refine Rn [0,11,4,51,4,51] ?_
  refine Xv rfl (bg (c:=money+g.s.al) rfl rfl rfl (by omega)) ?_
  refine Rn [11,4] ?_
  refine aG (cs:=[Value.map (some p12),Vi money]) (off:=1) (e:=125) (l2:=L) [(Bk p17 (wh g) 130),(p12,Obj.map es21 clock21),(Bk p3 (eN g) 71)] rfl rfl rfl rfl cT rfl (by show 2≤2; decide) ?_
  refine Rn [9,0,1,2,6] ?_
  exact aw rfl rfl (fun w' hm'=>⟨_,rfl,(p17,p12,es21,clock21),⟨rfl,hmf21⟩,(hm'.less (.cons_cons _ (.cons_cons _ (.cons _ (.refl _)))) (fun _ h=>h)).perm (.cons _ (.swap _ _ _))⟩)
 cases hc10
theorem g_FputS {w:World} {L:List (Nat×Obj)} {ro:List av} {pF:Nat} {money:Int} (g:FG) (hid:aj g.id) (hmn:-1000000000000000000≤money+g.s.al∧money+g.s.al≤1000000000000000000) {mF ck:Nat} {es:Array MapEntry} {Φ:Value→Option Value} (hC:MapC Tryz.prog 3 es ck (Φ)) (hm:Mem w ((Bk pF [Value.map (some mF),Vi money] 125)::(mF,Obj.map es ck)::L) ro) :
  Calls Tryz.prog 67 #[Pt pF,.agg (eN g).toArray] w fun e w'=>∃ v,e=.returned v∧∃ x:Nat×Nat×Array MapEntry×Nat,(v=Pt x.1∧MapC Tryz.prog 3 x.2.2.1 x.2.2.2 (ir Φ (Vi g.id) (Pt x.1)))∧Mem w' ((Bk x.1 (wh g) 130)::(Bk pF (bP x.2.1 (money+g.s.al)) 125)::(x.2.1,Obj.map x.2.2.1 x.2.2.2)::L) ro:=by
 refine ay hm Tryz.func67 rfl Tryz.ntmps67 rfl ?_
 refine Rn [3,36,1,2,5,3,0,11,4,7] fun p3=>?_
 refine Xv (v:=Value.bool false) rfl (v_eqm (p:=some mF) dw rfl rfl) ?_
 refine Rn [2,10] (Aw (fun hc10=>?_) fun hc10=>?_)
 ·cases hc10
 refine Rn [23] ?_
 refine Xv rfl (bS wT rfl rfl (by first | exact .head _ | exact .tail _ (.head _) | exact .tail _ (.tail _ (.head _)) | (repeat (first | exact List.Mem.head _ | apply List.Mem.tail | apply List.mem_append_right))) (by exact mo)) (Xv (v:=Value.agg (wh g).toArray) rfl (aH (cs:=wh g) (places:=[(0,5),(5,1)]) u130 wP Zk rfl rfl) ?_)
 refine Rn [36,1,2,5] fun p17=>?_
 refine bc 7 ?_
 refine Rn [0,11,4,51,4,51,0] ?_
 refine gm [(Bk p17 (wh g) 130),(Bk p3 (eN g) 71),(Bk pF [Value.map (some mF),Vi money] 125)] (l2:=L) (es:=es) (clock:=ck) rfl rfl rfl rfl dw (Maps.int_keyed u3) (Maps.keyOf_int_mk u3 (cG hid)) rfl hC ?_
 intro es21 clock21 hmf21
 refine Rn [2,5] ?_
 refine bc 9 ?_
 refine Rn [0,11,4,51,4,51] ?_
 refine Xv rfl (bg (c:=money+g.s.al) rfl rfl rfl (by omega)) ?_
 refine Rn [11,4] ?_
 refine aG (cs:=[Value.map (some mF),Vi money]) (off:=1) (e:=125) (l2:=(mF,Obj.map es21 clock21)::L) [(Bk p17 (wh g) 130),(Bk p3 (eN g) 71)] rfl rfl rfl rfl cT rfl (by show 2≤2; decide) ?_
 refine Rn [9,0,1,2,6] ?_
 exact aw rfl rfl (fun w' hm'=>⟨_,rfl,(p17,mF,es21,clock21),⟨rfl,hmf21⟩,hm'.less (.cons_cons _ (.cons _ (.refl _))) (fun _ h=>h)⟩)
theorem g_Fput {w:World} {L:List (Nat×Obj)} {ro:List av} {pF:Nat} {money:Int} (g:FG) (hid:aj g.id) (hmn:-1000000000000000000≤money+g.s.al∧money+g.s.al≤1000000000000000000) {m:MO} {Φ:Value→Option Value} (hM:mapIs Tryz.prog 3 m Φ) (hm:Mem w ((Bk pF [Value.map (m.map (·.1)),Vi money] 125)::(mapO m++L)) ro):Calls Tryz.prog 67 #[Pt pF,.agg (eN g).toArray] w fun e w'=>∃ v,e=.returned v∧∃ x:Nat×Nat×Array MapEntry×Nat,(v=Pt x.1∧MapC Tryz.prog 3 x.2.2.1 x.2.2.2 (ir Φ (Vi g.id) (Pt x.1)))∧Mem w' ((Bk x.1 (wh g) 130)::(Bk pF (bP x.2.1 (money+g.s.al)) 125)::(x.2.1,Obj.map x.2.2.1 x.2.2.2)::L) ro:=by
 obtain _ | ⟨mF,es,ck⟩:=m
 ·have hM:Φ=fun _=>none:=hM
  subst hM
  exact x3 g hid hmn hm
 exact g_FputS g hid hmn hM hm
theorem g_FAdd {w:World} {L:List (Nat×Obj)} {ro:List av} {pF:Nat} (al:Int) (hm:Mem w ((Bk pF [Value.map none,Vi 0] 125)::L) ro) (hal:0≤al∧al≤1000000000000000) :
  Calls Tryz.prog 23 #[Pt pF,Vi 2,Vi 0,Vi al] w fun e w'=>e=.returned (Vi 0)∧∃ x:Nat×Nat×Array MapEntry×Nat,MapC Tryz.prog 3 x.2.2.1 x.2.2.2 (cC [⟨⟨2,0,⟨al,0,0⟩⟩,x.1,.slice none 0 0⟩])∧Mem w' ((x.2.1,Obj.map x.2.2.1 x.2.2.2)::(Bk pF (bP x.2.1 al) 125)::(FB 130 [⟨⟨2,0,⟨al,0,0⟩⟩,x.1,.slice none 0 0⟩]++L)) ro:=by
 refine ay hm Tryz.func23 rfl Tryz.ntmps23 rfl ?_
 refine Rn [3,1,2,5,3,0,62,0,21,72,25,0,21,21] fun b12 hb12 b15 hb15 b16 hb16=>?_
 refine fV [] rfl rfl rfl rfl rfl (v:=Vi (min 0 al)) (fun hg=>by obtain ⟨hg0,_⟩:=hg; subst hg0; (try simp only [Qy]); exact tG rfl rfl) ?_
 refine Rn [72,25,2,10] fun b21 hb21 b22 hb22=>Aw (fun hc22=>?_) fun hc22=>?_
 ·exfalso
  rw [hb22,hb21,hb16,hb15,hb12] at hc22
  revert hc22; simp; omega
 simp only [hb22,hb21,hb16,hb15,Qz,ne_eq] at hc22
 refine Rn [23,0,11,4,7,0] ?_
 refine Xv (v:=Value.pointer none) rfl (lR dw (Maps.int_keyed u3) dZ rfl rfl (Maps.keyOf_int_mk u3 (by decide))) ?_
 refine Rn [1,2,5,14,3,0,11,4,7,0] ?_
 refine Xv (v:=Value.pointer none) rfl (lR dw (Maps.int_keyed u3) dZ rfl rfl (Maps.keyOf_int_mk u3 (by decide))) (Xv (v:=Value.bool false) rfl (Ac (p:=none) rS rfl rfl) ?_)
 refine Rn [1,2,10] (Aw (fun hc29=>?_) fun hc29=>?_)
 ·cases hc29
 refine Rn [3,0,37,0,21] fun b39 hb39=>?_
 refine fp [] rfl rfl rfl rfl rfl (c:=true) (fun hg=>by obtain ⟨hg0,_⟩:=hg; subst hg0; (try simp only [Qy]); exact gC (o:=none) rS rfl rfl) fun b42 hb42=>?_
 refine Rn [30,1,2,10] fun b43 hb43=>Aw (fun hc37=>?_) fun hc37=>?_
 ·exfalso
  rw [hb43,hb39] at hc37
  revert hc37; simp
 simp only [hb43,hb39,Qz,ne_eq] at hc37
 refine Rn [3,0,11,4,7] ?_
 refine Xv (v:=Vi 0) rfl (sq dw rfl) ?_
 refine Rn [57,0,21,21,59,22,40,80,63,25,1,2,10] fun b50 hb50 b58 hb58 b59 hb59=>Aw (fun hc44=>?_) fun hc44=>?_
 ·exfalso
  rw [hb59,hb58,hb50] at hc44
  revert hc44; simp; omega
 simp only [hb59,hb58,hb50,Qz,ne_eq] at hc44
 refine Rn [45,27,17,3,0,0,0,0] ?_
 refine Xv (v:=Value.agg (eN ⟨2,0,⟨al,0,0⟩⟩).toArray) rfl (aH (cs:=eN ⟨2,0,⟨al,0,0⟩⟩) (places:=[(0,1),(1,1),(2,1),(3,1),(4,1)]) wT zK Zk rfl rfl) ?_
 refine gB (fun (x:Nat×Nat×Array MapEntry×Nat) v _ _=>v=Pt x.1∧MapC Tryz.prog 3 x.2.2.1 x.2.2.2 (ir (fun _=>none) (Vi 2) (Pt x.1))) (fun x=>(Bk x.1 (wh ⟨2,0,⟨al,0,0⟩⟩) 130)::(Bk pF (bP x.2.1 al) 125)::(x.2.1,Obj.map x.2.2.1 x.2.2.2)::L) rfl rfl Tryz.func67 Zk rfl (fun w1 hw1=>(x3 (money:=0) (L:=L) ⟨2,0,⟨al,0,0⟩⟩ (by show aj 2; unfold aj; decide) (by show -1000000000000000000≤0+al∧0+al≤_; omega) hw1).mono fun e w2 ⟨v,h1,x,h2,h3⟩=>⟨v,h1,x,h2,h3.to (by show _::(Bk pF (bP x.2.1 (0+al)) 125)::_=_; rw [Int.zero_add])⟩) ?_
 rintro _ ⟨pX,mF,esF,ckF⟩ wa wb _ ⟨rfl,hmf⟩ _
 refine Rn [1,2,5,3,0] ?_
 refine Xv (v:=Value.bool false) rfl (Ac (p:=none) rS rfl rfl) ?_
 refine Rn [2,10] (Aw (fun hc67=>?_) fun hc67=>?_)
 ·cases hc67
 refine Rn [23,1,2,6] ?_
 exact aw rfl rfl (fun w' hm'=>⟨rfl,(pX,mF,esF,ckF),by rw [fMM_one]; exact hmf,(hm'.less (.refl _) (fun q hq=>.tail _ hq)).perm ((List.reverse_perm [_,_,_]).symm.append_right L)⟩)
theorem k_has0 {pF:Nat} {i p:Int} {f:FSt} (w:World) (hF:∀ w1,Later w w1→Calls Tryz.prog 30 #[Pt pF,Vi 2] w1 fun e w'=>e=.returned (.tuple #[.agg (eN ⟨i,p,f⟩).toArray,.bool true])∧Later w1 w') (a b:Int) :
  Calls Tryz.prog 27 #[Pt pF,Vi a,Vi b] w fun e w'=>e=.returned (.bool (decide (f.en=a) && decide (f.sp=b)))∧Later w w':=by
 refine enter Tryz.func27 rfl Tryz.ntmps27 rfl ?_
 refine Rn [3,1,9,0] ?_
 refine Xc (v:=Value.tuple #[.agg (eN ⟨i,p,f⟩).toArray,.bool true]) rfl Tryz.func30 rfl (fun w1 hw1=>hF w1 hw1.b) ?_
 refine Rn [0,20,48,28,32,1,9,0,0,22,40,21,73,30,0,22,40,21,73] fun b13 hb13 p7 b19 hb19 b20 hb20 b25 hb25=>?_
 refine Rn [30,1,2,6] fun b26 hb26=>?_
 refine aw rfl rfl (fun w' hm=>⟨?_,hm.b⟩)
 rw [hb26,hb25,hb20,hb19,hb13]; rfl
theorem x4 {w:World} {l1 L:List (Nat×Obj)} {ro:List av} {x:Fx} {s:SG} {q:Sq} (hm:Mem w (l1++(x.own s.tol q++L)) ro) (hg:Good x s q) {f:FSt} (hl:fl s.fs 2=some f) (a b:Int):Calls Tryz.prog 27 #[Pt x.pF,Vi a,Vi b] w fun e w'=>e=.returned (.bool (decide (f.en=a) && decide (f.sp=b)))∧Later w w':=by
 obtain ⟨y,h1,h2,h3⟩:=lkM_of hg.fs hl
 subst h2
 refine k_has0 (i:=y.g.id) (p:=y.g.par) w (fun w1 hw1=>?_) a b
 have hm:=hm.later hw1
 exact xM (x:=y) hg.F.f (aa (vs:=bP x.mF x.money) x1 rfl w1 hm) (hm.own_at _ sQ) (by unfold aj; decide) (show (iz q.ms 2).map _=_ by rw [h1]; rfl) (fun i v hv=>aa (vs:=cB y) (sR (List.mem_map_of_mem h3)) hv w1 hm)
def sB (al tol:Int):SG:=⟨[⟨2,0,⟨al,0,0⟩⟩],tol,[]⟩
theorem good_new {x:Fx} {al tol:Int} {pX mO:Nat} (h:MapC Tryz.prog 3 x.esF x.ckF (cC [⟨⟨2,0,⟨al,0,0⟩⟩,pX,.slice none 0 0⟩])) (hal:0≤al∧al≤1000000000000000) (ht:0≤tol∧tol≤1000000):Good x (sB al tol) ⟨mO,0,#[],[⟨⟨2,0,⟨al,0,0⟩⟩,pX,.slice none 0 0⟩]⟩ where
 F:=h
 O:=by show MapC _ _ #[] 0 (fR []); rw [xJ]; exact MapC.empty
 fs:=rfl
 ok:=⟨fun f hf=>by rw [show f=⟨2,0,⟨al,0,0⟩⟩ from List.mem_singleton.1 hf]; unfold aR; dsimp only; omega,ht,fun e he=>(by cases he),List.Pairwise.nil⟩
def sS0:SG:=⟨[⟨2,0,⟨10000,0,3000⟩⟩],50,[(bm (yO 3 1000),1000)]⟩
def sS1:SG:=⟨[⟨2,0,⟨10000,0,2100⟩⟩],50,[(a6 (bm (yO 3 1000)) (yO 2 1050),1000)]⟩
def sS2:SG:=⟨[⟨2,0,⟨10000,0,2100⟩⟩],50,[({ a6 (bm (yO 3 1000)) (yO 2 1050) with st:=1 },1000)]⟩
def sS3:SG:=⟨[⟨2,0,⟨10000,1100,1050⟩⟩],50,[({ a6 (bm (yO 3 1000)) (yO 2 1050) with st:=1,paid:=1 },1000)]⟩
def sS4:SG:=⟨[⟨2,0,⟨10000,1100,0⟩⟩],50,[({ a6 (bm (yO 3 1000)) (yO 2 1050) with st:=-1,paid:=1,prom:=1 },1000)]⟩
theorem x5 {n r:Int} (hn:1≤n∧n≤9999) (hr:0≤r∧r≤999999999):bn (oR n r)=(yO n r,0):=by
 obtain ⟨_,_,h3,_,h5⟩:=fD hn hr
 unfold bn; rw [if_neg (fun q=>q h3)]; exact h5
theorem uL {n r:Int} (hn:1≤n∧n≤9999) (hr:0≤r∧r≤999999999):aM (oU n r)=([yB n r],0):=by
 obtain ⟨_,_,h3,_,h5⟩:=fE hn hr
 unfold aM; rw [if_neg (fun q=>q h3)]; exact h5
theorem k_one (w:World) (hL:LD w) :
  Calls Tryz.prog 48 #[Vi 10000,Vi 50,Vi 1000] w fun e w'=>∃ z:Fx×Sq,e=.returned (.tuple #[Pt z.1.pO,Pt z.1.pF,Vi 0])∧Good z.1 sS0 z.2∧Mem w' ([]++(z.1.own 50 z.2++[])) [(w,fun _=>True)]:=by
 refine enter Tryz.func48 rfl Tryz.ntmps48 rfl ?_
 refine Rn [3,1,1,1,9] ?_
 refine fq (τ:=Nat) (fun pF=>Pt pF) (fun _=>True) (fun pF=>(Bk pF [Value.map none,Vi 0] 125)::[]) rfl rfl rfl Tryz.func22 Zk rfl (fun w1 hw1=>(c_FNew w1).mono fun e w2 ⟨pF,h1,h2⟩=>⟨pF,h1,h2.b,trivial,hw1.join h2⟩) fun pF _=>?_
 refine Rn [1,9,0,0] ?_
 refine aI (τ:=Nat×Nat×Array MapEntry×Nat) (v:=Vi 0) (fun x=>MapC Tryz.prog 3 x.2.2.1 x.2.2.2 (cC [⟨⟨2,0,⟨10000,0,0⟩⟩,x.1,.slice none 0 0⟩])) (fun x=>(x.2.1,Obj.map x.2.2.1 x.2.2.2)::(Bk pF (bP x.2.1 10000) 125)::(FB 130 [⟨⟨2,0,⟨10000,0,0⟩⟩,x.1,.slice none 0 0⟩]++[])) rfl rfl Tryz.func23 Zk rfl (fun w1 hw1=>g_FAdd (L:=[]) 10000 hw1 (by decide)) ?_
 rintro ⟨pX,mF,esF,ckF⟩ hF
 dsimp only at hF
 refine Rn [9,0,0] ?_
 refine fq (τ:=Nat×Nat) (fun z=>Pt z.1) (fun _=>True) (fun z=>[]++((⟨z.1,pF,mF,ckF,esF,10000⟩:Fx).own (min (max 50 0) 1000000) (⟨z.2,0,#[],[⟨⟨2,0,⟨10000,0,0⟩⟩,pX,.slice none 0 0⟩]⟩:Sq)++[])) rfl rfl rfl Tryz.func17 Zk rfl (fun w1 hw1=>(Ar 50 w1).mono fun e w2 ⟨z,h1,h2⟩=>⟨z,h1,h2.b,trivial,hw1.join2 h2⟩) ?_
 rintro ⟨pO,mO⟩ _
 have hg0:=good_new (x:=(⟨pO,pF,mF,ckF,esF,10000⟩:Fx)) (al:=10000) (tol:=(min (max 50 0) 1000000)) (pX:=pX) (mO:=mO) hF (by decide) (by decide)
 refine Rn [1,9,0,0,0] ?_
 refine Xv (v:=Value.agg #[Vi 1,Vi 5]) rfl (aH (cs:=[Vi 1,Vi 5]) (places:=[(0,1),(1,1)]) l9 pV Zk rfl rfl) (Xm ?_)
 refine Xv (v:=Value.agg (yO 3 1000).cells.toArray) rfl (aH (cs:=(yO 3 1000).cells) (places:=[(0,1),(1,1),(2,2),(4,1),(5,1),(6,1),(7,1),(8,1)]) f4 gI Zk rfl rfl) ?_
 refine aI (τ:=Sq) (v:=Vi 0) (fun q=>Good (⟨pO,pF,mF,ckF,esF,10000⟩:Fx) sS0 q) (fun q=>[]++((⟨pO,pF,mF,ckF,esF,10000⟩:Fx).own 50 q++[])) rfl rfl Tryz.func12 Zk rfl (fun w1 hw1=>by
  have h:=x2 (l1:=[]) (L:=[]) (x:=(⟨pO,pF,mF,ckF,esF,10000⟩:Fx)) (q:=(⟨mO,0,#[],[⟨⟨2,0,⟨10000,0,0⟩⟩,pX,.slice none 0 0⟩]⟩:Sq)) (s:=sB 10000 50) hw1 hg0 (by simp) hL (yO 3 1000) (yO_A (by decide) (by decide)) (by decide)
  rw [show aD (sB 10000 50) (yO 3 1000)=(0,sS0) from by decide] at h
  exact h) ?_
 intro q24 hg24
 refine Rn [1,1,1,2,6] ?_
 exact dJ rfl rfl rfl rfl (fun w' hm=>⟨((⟨pO,pF,mF,ckF,esF,10000⟩:Fx),q24),rfl,hg24,hm⟩)
theorem wk (w:World) (hL:LD w) :
  Calls Tryz.prog 10 #[] w fun e w'=>e=.returned (.bool (true))∧Later w w':=by
 refine enter Tryz.func10 rfl Tryz.ntmps10 rfl ?_
 refine Rn [3,1,9] ?_
 refine fq (τ:=Fx×Sq) (fun z=>.tuple #[Pt z.1.pO,Pt z.1.pF,Vi 0]) (fun z=>Good z.1 sS0 z.2) (fun z=>[]++(z.1.own 50 z.2++[])) rfl rfl rfl Tryz.func48 Zk rfl (fun w1 hw1=>(k_one w1 (hL.later hw1.b)).mono fun e w2 ⟨z,h1,h2,h3⟩=>⟨z,h1,h3.b,h2,hw1.join h3⟩) ?_
 rintro ⟨x,q9⟩ hg9
 dsimp only at hg9
 refine Rn [0,20,20,20,1,1,1,2,5,3,0] ?_
 refine Xb rfl (gC (o:=some ⟨x.pO,0,none⟩) AD rfl rfl) fun b14 hb14=>?_
 obtain rfl:b14=false:=hb14
 refine Rn [0,29] ?_
 refine db rfl rfl rfl rfl rfl (gC (o:=some ⟨x.pF,0,none⟩) u35 rfl rfl) fun b17 hb17=>?_
 obtain rfl:b17=false:=hb17
 refine Rn [25] fun b18 hb18=>?_
 obtain rfl:b18=false:=hb18
 refine Rn [2,10] (Aw (fun hc18=>?_) fun hc18=>?_)
 ·cases hc18
 refine Rn [23,0,38] fun b20 hb20=>?_
 obtain rfl:b20=true:=hb20
 refine Rn [0,29] ?_
 refine fL rfl rfl rfl rfl rfl Tryz.func27 Zk rfl (fun w1 hw1=>x4 (l1:=[]) (L:=[]) (x:=x) (q:=q9) (s:=sS0) hw1 hg9 (f:=⟨10000,0,3000⟩) rfl (3000) (0)) fun b23 hb23=>?_
 obtain rfl:b23=true:=hb23.trans (by decide)
 refine Rn [30] fun b24 hb24=>?_
 obtain rfl:b24=true:=hb24
 refine Rn [1,9,0] ?_
 refine Xc rfl Tryz.func49 rfl (fun w1 hw1=>c_ans 2 1050 w1 (by decide) (by decide)) ?_
 refine aI (τ:=Sq) (v:=Vi 0) (fun q=>Good x sS1 q) (fun q=>[]++(x.own 50 q++[])) rfl rfl Tryz.func13 Zk rfl (fun w1 hw1=>by
  have h:=pn (l1:=[]) (L:=[]) (x:=x) (q:=q9) (s:=sS0) hw1 hg9 (by simp) hL (oR 2 1050) (fD (by decide) (by decide)).2.1 (fD (by decide) (by decide)).2.2.2.1
  rw [x5 (by decide) (by decide),show ah sS0 (yO 2 1050) 0=(0,sS1) from by decide] at h
  exact h) ?_
 intro q27 hg27
 refine Rn [38] fun b28 hb28=>?_
 obtain rfl:b28=true:=hb28
 refine Rn [0,29] ?_
 refine fL rfl rfl rfl rfl rfl Tryz.func27 Zk rfl (fun w1 hw1=>x4 (l1:=[]) (L:=[]) (x:=x) (q:=q27) (s:=sS1) hw1 hg27 (f:=⟨10000,0,2100⟩) rfl (2100) (0)) fun b31 hb31=>?_
 obtain rfl:b31=true:=hb31.trans (by decide)
 refine Rn [30] fun b32 hb32=>?_
 obtain rfl:b32=true:=hb32
 refine Rn [0,29] ?_
 refine dc rfl rfl rfl rfl rfl Tryz.func49 Zk rfl (fun w1 hw1=>c_ans 2 1051 w1 (by decide) (by decide)) ?_
 refine lH (τ:=Sq) (v:=Vi 61) (fun q=>Good x sS1 q) (fun q=>[]++(x.own 50 q++[])) rfl rfl rfl rfl Tryz.func13 Zk rfl (fun w1 hw1=>by
  have h:=pn (l1:=[]) (L:=[]) (x:=x) (q:=q27) (s:=sS1) hw1 hg27 (by simp) hL (oR 2 1051) (fD (by decide) (by decide)).2.1 (fD (by decide) (by decide)).2.2.2.1
  rw [x5 (by decide) (by decide),show ah sS1 (yO 2 1051) 0=(61,sS1) from by decide] at h
  exact h) ?_
 intro q36 hg36
 refine Rn [70] fun b37 hb37=>?_
 obtain rfl:b37=true:=hb37
 refine Rn [30] fun b38 hb38=>?_
 obtain rfl:b38=true:=hb38
 refine Rn [1,9,0] ?_
 refine aI (τ:=Sq) (v:=Vi 0) (fun q=>Good x sS2 q) (fun q=>[]++(x.own 50 q++[])) rfl rfl Tryz.func14 Zk rfl (fun w1 hw1=>by
  have h:=rf (l1:=[]) (L:=[]) (x:=x) (q:=q36) (s:=sS1) hw1 hg36 (id:=7) (by unfold aj; decide) 1 (by unfold aj; decide)
  rw [show ar sS1 7 1=(0,sS2) from by decide] at h
  exact h) ?_
 intro q40 hg40
 refine Rn [38] fun b41 hb41=>?_
 obtain rfl:b41=true:=hb41
 refine Rn [0,29] ?_
 refine dc rfl rfl rfl rfl rfl Tryz.func50 Zk rfl (fun w1 hw1=>c_bil 2 1050 w1 (by decide) (by decide)) ?_
 refine lH (τ:=Sq) (v:=Vi 50) (fun q=>Good x sS2 q) (fun q=>[]++(x.own 50 q++[])) rfl rfl rfl rfl Tryz.func15 Zk rfl (fun w1 hw1=>by
  have h:=mJ (l1:=[]) (L:=[]) (x:=x) (q:=q40) (s:=sS2) hw1 hg40 (by simp) hL (oU 2 1050) (fE (by decide) (by decide)).2.1 (fE (by decide) (by decide)).2.2.2.1
  rw [uL (by decide) (by decide),show aF sS2 [yB 2 1050] 0=(50,sS2) from by decide] at h
  exact h) ?_
 intro q45 hg45
 refine Rn [70] fun b46 hb46=>?_
 obtain rfl:b46=true:=hb46
 refine Rn [30] fun b47 hb47=>?_
 obtain rfl:b47=true:=hb47
 refine Rn [1,9,0] ?_
 refine Xc rfl Tryz.func50 rfl (fun w1 hw1=>c_bil 1 1100 w1 (by decide) (by decide)) ?_
 refine aI (τ:=Sq) (v:=Vi 0) (fun q=>Good x sS3 q) (fun q=>[]++(x.own 50 q++[])) rfl rfl Tryz.func15 Zk rfl (fun w1 hw1=>by
  have h:=mJ (l1:=[]) (L:=[]) (x:=x) (q:=q45) (s:=sS2) hw1 hg45 (by simp) hL (oU 1 1100) (fE (by decide) (by decide)).2.1 (fE (by decide) (by decide)).2.2.2.1
  rw [uL (by decide) (by decide),show aF sS2 [yB 1 1100] 0=(0,sS3) from by decide] at h
  exact h) ?_
 intro q50 hg50
 refine Rn [38] fun b51 hb51=>?_
 obtain rfl:b51=true:=hb51
 refine Rn [0,29] ?_
 refine fL rfl rfl rfl rfl rfl Tryz.func27 Zk rfl (fun w1 hw1=>x4 (l1:=[]) (L:=[]) (x:=x) (q:=q50) (s:=sS3) hw1 hg50 (f:=⟨10000,1100,1050⟩) rfl (1050) (1100)) fun b54 hb54=>?_
 obtain rfl:b54=true:=hb54.trans (by decide)
 refine Rn [30] fun b55 hb55=>?_
 obtain rfl:b55=true:=hb55
 refine Rn [1,9,0,0,29,30] fun b59 hb59=>?_
 obtain rfl:b59=true:=hb59
 refine Rn [0,29,30] fun b62 hb62=>?_
 obtain rfl:b62=true:=hb62
 refine Rn [0,29,30] fun b65 hb65=>?_
 obtain rfl:b65=true:=hb65
 refine Rn [0,29] ?_
 refine lH (τ:=Sq) (v:=Vi 0) (fun q=>Good x sS4 q) (fun q=>[]++(x.own 50 q++[])) rfl rfl rfl rfl Tryz.func16 Zk rfl (fun w1 hw1=>by
  have h:=uK (l1:=[]) (L:=[]) (x:=x) (q:=q50) (s:=sS3) hw1 hg50 (id:=7) (by unfold aj; decide)
  rw [show aE sS3 7=(0,sS4) from by decide] at h
  exact h) ?_
 intro q68 hg68
 refine Rn [70] fun b69 hb69=>?_
 obtain rfl:b69=true:=hb69
 refine Rn [30] fun b70 hb70=>?_
 obtain rfl:b70=true:=hb70
 refine Rn [0,29] ?_
 refine fL rfl rfl rfl rfl rfl Tryz.func27 Zk rfl (fun w1 hw1=>x4 (l1:=[]) (L:=[]) (x:=x) (q:=q68) (s:=sS4) hw1 hg68 (f:=⟨10000,1100,0⟩) rfl (0) (1100)) fun b73 hb73=>?_
 obtain rfl:b73=true:=hb73.trans (by decide)
 refine Rn [30] fun b74 hb74=>?_
 obtain rfl:b74=true:=hb74
 refine Rn [1,2,6] ?_
 exact aw rfl rfl (fun w' hm=>⟨rfl,hm.b⟩)
open Go.RowKit Go.PK
theorem apO:(Tryz.prog.info? 25).map (fun j=>(j.zero,j.size,j.bytes))=some (some (.agg #[Vi 0,Vi 0,Vi 0,Vi 0,Vi 0,Vi 0,Vi 0,Vi 0,Vi 0]),9,72):=by kernel_rfl
open Go.RowKit Go.PK
def bD (pG:Nat) (RF:ak) (n:Nat):List (Nat×Obj):=(Bk pG [au RF n] 122)::aA 71 RF
theorem iC {pG:Nat} {R:ak} {fs:List FG} {id:Int} (w:World) (h1:w.cell? ⟨pG,0,none⟩=some (au R fs.length)) (hin:rowIn w 71 R) (hR:ag 5 R fs.length (ax cD fs)) :
  Calls Tryz.prog 139 #[Pt pG,Vi id] w fun e w'=>e=.returned (Vi (uS fs id))∧Later w w':=by
 have hmx:=cV hR
 unfold maxLen at hmx
 refine enter Tryz.func139 rfl Tryz.ntmps139 rfl ?_
 refine Rn [3,1,2,5,3,1,2,14] ?_
 refine aO (σ:=Nat) (fun k=>k≤fs.length∧∀ j (hj:j < fs.length),j < k→fs[j].id≠id) (fun k=>[(0,Pt pG),(1,Vi id),(5,Vi (k:Nat))]) (fun k=>[]) (fun k=>[(w,fun _=>True)]) (fun k=>fs.length - k) (0) (⟨Nat.zero_le _,fun j _ h=>absurd h (Nat.not_lt_zero _)⟩) (aC Zu (fun _ h=>h)) ?_
 rintro k ⟨hkl,hno⟩
 refine Rn [5,3,0,0,11,152] ?_
 refine Xl rfl jn rfl (an (.head _) trivial h1) ?_
 refine Rn [31,24,2,12] fun b12 hb12=>Aw (fun hc12=>?_) fun hc12=>?_
 ·have hk:k < fs.length:=by omega
  obtain ⟨b,cs,c,rfl⟩:=bN bF (by decide) hR hk
  refine Rn [16,5,14,3,0,11,152] ?_
  refine Xl rfl jn rfl (an (.head _) trivial h1) ?_
  refine Rn [0,46,152] ?_
  refine Xl rfl u3 rfl (an (.head _) trivial (hin.cell (cg bF hR hk (j:=0) rfl))) ?_
  refine Rn [0,38,2,12] fun b24 hb24=>Aw (fun hc24=>?_) fun hc24=>?_
  ·refine Rn [3,0,1,2,6,15,8,8,15,8] ?_
   refine aw rfl rfl (fun w' hm=>⟨?_,hm.b⟩)
   rw [ixF_at hk (by assumption) hno]
  refine Rn [45,27,17,18,0,26,1,13] ?_
  exact aJ (k+1) ⟨hk,mi hno (fun hj=>by assumption)⟩ (by show fs.length - (k+1) < fs.length - k; omega) Zu (fun _ h=>h)
 refine Rn [34,19,19,35,17,3,1,2,6] ?_
 refine aw rfl rfl (fun w' hm=>⟨?_,hm.b⟩)
 obtain rfl:k=fs.length:=by omega
 rw [ixF_no (fun j hj=>hno j hj hj)]
theorem dU {pR:Nat} {R:ak} {es:List EN} {id:Int} (w:World) (h1:w.cell? ⟨pR,2,none⟩=some (au R es.length)) (hin:rowIn w 144 R) (hR:ag 10 R es.length (ax du es)) :
  Calls Tryz.prog 82 #[Pt pR,Vi id] w fun e w'=>e=.returned (Vi (sU es id))∧Later w w':=by
 have hmx:=cV hR
 unfold maxLen at hmx
 refine enter Tryz.func82 rfl Tryz.ntmps82 rfl ?_
 refine Rn [3,1,2,5,3,1,2,14] ?_
 refine aO (σ:=Nat) (fun k=>k≤es.length∧∀ j (hj:j < es.length),j < k→es[j].1.id≠id) (fun k=>[(0,Pt pR),(1,Vi id),(5,Vi (k:Nat))]) (fun k=>[]) (fun k=>[(w,fun _=>True)]) (fun k=>es.length - k) (0) (⟨Nat.zero_le _,fun j _ h=>absurd h (Nat.not_lt_zero _)⟩) (aC Zu (fun _ h=>h)) ?_
 rintro k ⟨hkl,hno⟩
 refine Rn [5,3,0,0,11,152] ?_
 refine Xl rfl mW rfl (an (.head _) trivial h1) ?_
 refine Rn [31,24,2,12] fun b12 hb12=>Aw (fun hc12=>?_) fun hc12=>?_
 ·have hk:k < es.length:=by omega
  obtain ⟨b,cs,c,rfl⟩:=bN bf (by decide) hR hk
  refine Rn [16,5,14,3,0,11,152] ?_
  refine Xl rfl mW rfl (an (.head _) trivial h1) ?_
  refine Rn [0,46,152,152] ?_
  refine Xl rfl u3 rfl (an (.head _) trivial (hin.cell (cg bf hR hk (j:=0) rfl))) ?_
  refine Rn [0,38,2,12] fun b25 hb25=>Aw (fun hc25=>?_) fun hc25=>?_
  ·refine Rn [3,0,1,2,6,15,8,8,15,8] ?_
   refine aw rfl rfl (fun w' hm=>⟨?_,hm.b⟩)
   rw [ixL_at hk (by assumption) hno]
  refine Rn [45,27,17,18,0,26,1,13] ?_
  exact aJ (k+1) ⟨hk,mi hno (fun hj=>by assumption)⟩ (by show es.length - (k+1) < es.length - k; omega) Zu (fun _ h=>h)
 refine Rn [34,19,19,35,17,3,1,2,6] ?_
 refine aw rfl rfl (fun w' hm=>⟨?_,hm.b⟩)
 obtain rfl:k=es.length:=by omega
 rw [ixL_no (fun j hj=>hno j hj hj)]
theorem r_free (g:FG) (w:World) (hok:aR g.s) :
  Calls Tryz.prog 140 #[.agg (eN g).toArray] w fun e w'=>e=.returned (Vi (g.s.free))∧Later w w':=by
 obtain ⟨ok1,ok2,ok3,ok4⟩:=id hok
 refine enter Tryz.func140 rfl Tryz.ntmps140 rfl ?_
 refine Rn [3,36,1,9,4,7,4,7,54,4,7,54,1,2,6] fun p1=>?_
 refine aw rfl rfl (fun w' hm=>⟨?_,hm.b⟩)
 rfl
theorem r_encM {w:World} {l1 L:List (Nat×Obj)} {ro:List av} {pG:Nat} {RF:ak} {fs:List FG} (hm:Mem w (l1++(bD pG RF fs.length++L)) ro) (hR:ag 5 RF fs.length (ax cD fs)) (jd n:Int) (hix:uS fs jd=-1) :
  Calls Tryz.prog 89 #[Pt pG,Vi jd,Vi n] w fun e w'=>e=.returned (Vi 32)∧Mem w' (l1++(bD pG RF fs.length++L)) ro:=by
 refine ay hm Tryz.func89 rfl Tryz.ntmps89 rfl ?_
 refine Rn [3,1,9,0,0] ?_
 refine Xc (v:=Vi (-1)) rfl Tryz.func139 rfl (fun w1 hw1=>by
  have h:=iC (id:=jd) w1 (aa (vs:=[au _ fs.length]) (List.mem_append_right _ (.head _)) rfl w1 hw1) (hw1.rowIn (fun p hp=>(List.mem_append_right _ (.tail _ (List.mem_append_left _ hp))))) hR
  rw [hix] at h; exact h) ?_
 refine Rn [1,2,5,3,0,24,2,12] fun b12 hb12=>Aw (fun hc12=>?_) fun hc12=>?_
 ·refine Rn [3,1,2,6,8] ?_
  exact aw rfl rfl (fun w' hm'=>⟨rfl,hm'⟩)
 omega
theorem r_enc1 {w:World} {l1 L:List (Nat×Obj)} {ro:List av} {pG:Nat} {b c:Nat} {cs:List Value} {fs:List FG} (hm:Mem w (l1++(bD pG (some (b,cs,c)) fs.length++L)) ro) (hR:ag 5 (some (b,cs,c)) fs.length (ax cD fs)) (jd n:Int) {k:Nat} (hk:k < fs.length) (hix:uS fs jd=k) (hset:∀ g:FSt,dx fs jd g=fs.set k { fs[k] with s:=g }) (hok:aR fs[k].s) :
  Calls Tryz.prog 89 #[Pt pG,Vi jd,Vi n] w fun e w'=>e=.returned (Vi (bJ fs[k].s n).1)∧∃ RF',ag 5 RF' (dx fs jd (bJ fs[k].s n).2).length (ax cD (dx fs jd (bJ fs[k].s n).2))∧Mem w' (l1++(bD pG RF' fs.length++L)) ro:=by
 obtain ⟨ok1,ok2,ok3,ok4⟩:=id hok
 obtain ⟨r1,r2,r3,r4,r5⟩:=id hR
 dsimp only at r2 r3 r4
 have hfr:fs[k].s.free=fs[k].s.al - fs[k].s.sp - fs[k].s.en:=rfl
 have hsm:dx fs jd fs[k].s=fs:=by rw [hset]; exact List.set_getElem_self _
 have hmx:=cV hR
 unfold maxLen at hmx
 refine ay hm Tryz.func89 rfl Tryz.ntmps89 rfl ?_
 refine Rn [3,1,9,0,0] ?_
 refine Xc (v:=Vi ((k:Nat):Int)) rfl Tryz.func139 rfl (fun w1 hw1=>by
  have h:=iC (id:=jd) w1 (aa (vs:=[au _ fs.length]) (List.mem_append_right _ (.head _)) rfl w1 hw1) (hw1.rowIn (fun p hp=>(List.mem_append_right _ (.tail _ (List.mem_append_left _ hp))))) hR
  rw [hix] at h; exact h) ?_
 refine Rn [1,2,5,3,0,24,2,12] fun b12 hb12=>Aw (fun hc12=>?_) fun hc12=>?_
 ·omega
 refine Rn [16,5,3,0,24,2,12] fun b14 hb14=>Aw (fun hc14=>?_) fun hc14=>?_
 ·refine Rn [3,1,2,6,8] ?_
  refine aw rfl rfl (fun w' hm'=>⟨?_,some (b,cs,c),?_,hm'⟩)
  ·unfold bJ; rw [if_pos (by omega)]
  unfold bJ; rw [if_pos (by omega),hsm]; exact hR
 refine Rn [16,5,3,0,0,11,152,7,0,46] ?_
 refine Xv rfl (bj (vs:=eN fs[k]) wT rfl mo rfl (fun i hi=>aa (vs:=cs) (List.mem_append_right _ (.tail _ (.head _))) (cg bF hR hk (List.getElem?_eq_getElem hi)))) ?_
 refine Xc rfl Tryz.func140 rfl (fun w1 hw1=>r_free fs[k] w1 hok) ?_
 refine Rn [60,2,12] fun b24 hb24=>Aw (fun hc24=>?_) fun hc24=>?_
 ·refine Rn [3,1,2,6,8] ?_
  refine aw rfl rfl (fun w' hm'=>⟨?_,some (b,cs,c),?_,hm'⟩)
  ·unfold bJ; rw [if_neg (by omega),if_pos (by omega)]
  unfold bJ; rw [if_neg (by omega),if_pos (by omega),hsm]; exact hR
 refine Rn [16,5] ?_
 refine bc 17 ?_
 refine Rn [0,11,152,7,0,0,11,152,7,0,46,152] ?_
 refine Xl rfl u3 rfl (aa (vs:=cs) (List.mem_append_right _ (.tail _ (.head _))) (cg bF hR hk (j:=4) rfl)) ?_
 refine Rn [0,26,46,152] ?_
 refine aG (cs:=cs) (off:=0+k*5+4) (e:=71) (l2:=L) (l1++[(Bk pG [au (some (b,cs,c)) fs.length] 122)]) rfl rfl rfl (by simp [bD,aA]) cT rfl (by omega) ?_
 refine Rn [9,1,2,6] ?_
 refine aw rfl rfl (fun w' hm'=>⟨?_,some (b,(cs.take (0+k*5+4)++(Vi (fs[k].s.en+n)).cells.toList++cs.drop (0+k*5+4+1)),c),?_,hm'.to (by simp [bD,aA] <;> rfl)⟩)
 ·unfold bJ; rw [if_neg (by omega),if_neg (by omega)]
 unfold bJ; rw [if_neg (by omega),if_neg (by omega),hset]
 have h:=nF bF (n:=fs.length) hR hk ({ fs[k] with s:={ fs[k].s with en:=fs[k].s.en+n } }) (j:=4) (m:=1) (vs:=(Vi (fs[k].s.en+n)).cells.toList) rfl (by decide) rfl
 rw [show k*5+4=0+k*5+4 by omega] at h
 rw [List.length_set]; exact h
theorem r_enc {w:World} {l1 L:List (Nat×Obj)} {ro:List av} {pG:Nat} {RF:ak} {fs:List FG} (hm:Mem w (l1++(bD pG RF fs.length++L)) ro) (hR:ag 5 RF fs.length (ax cD fs)) (jd n:Int) (hfk:∀ f∈fs,aR f.s):Calls Tryz.prog 89 #[Pt pG,Vi jd,Vi n] w fun e w'=>e=.returned (Vi (ap bJ fs jd n).1)∧∃ RF',ag 5 RF' (ap bJ fs jd n).2.length (ax cD (ap bJ fs jd n).2)∧Mem w' (l1++(bD pG RF' (ap bJ fs jd n).2.length++L)) ro:=by
 unfold ap
 cases hl:fl fs jd with
 | none=>exact (r_encM hm hR jd n (pu hl)).mono fun e w2 h=>⟨h.1,RF,hR,h.2⟩
 | some f =>
  obtain ⟨k,hk,h1,rfl,h3,h4⟩:=pr hl
  obtain ⟨b,cs,c,rfl⟩:=bN bF (by decide) hR hk
  refine (r_enc1 hm hR jd n hk h1 h4 (hfk _ (List.getElem_mem hk))).mono fun e w2 ⟨h5,R2,h6,h7⟩=>⟨h5,R2,h6,?_⟩
  show Mem w2 (l1++(bD pG R2 (dx fs jd (bJ fs[k].s n).2).length++L)) ro
  rw [h4,List.length_set]; exact h7
theorem r_relM {w:World} {l1 L:List (Nat×Obj)} {ro:List av} {pG:Nat} {RF:ak} {fs:List FG} (hm:Mem w (l1++(bD pG RF fs.length++L)) ro) (hR:ag 5 RF fs.length (ax cD fs)) (jd n:Int) (hix:uS fs jd=-1) :
  Calls Tryz.prog 90 #[Pt pG,Vi jd,Vi n] w fun e w'=>e=.returned (Vi 32)∧Mem w' (l1++(bD pG RF fs.length++L)) ro:=by
 refine ay hm Tryz.func90 rfl Tryz.ntmps90 rfl ?_
 refine Rn [3,1,9,0,0] ?_
 refine Xc (v:=Vi (-1)) rfl Tryz.func139 rfl (fun w1 hw1=>by
  have h:=iC (id:=jd) w1 (aa (vs:=[au _ fs.length]) (List.mem_append_right _ (.head _)) rfl w1 hw1) (hw1.rowIn (fun p hp=>(List.mem_append_right _ (.tail _ (List.mem_append_left _ hp))))) hR
  rw [hix] at h; exact h) ?_
 refine Rn [1,2,5,3,0,24,2,12] fun b12 hb12=>Aw (fun hc12=>?_) fun hc12=>?_
 ·refine Rn [3,1,2,6,8] ?_
  exact aw rfl rfl (fun w' hm'=>⟨rfl,hm'⟩)
 omega
theorem r_rel1 {w:World} {l1 L:List (Nat×Obj)} {ro:List av} {pG:Nat} {b c:Nat} {cs:List Value} {fs:List FG} (hm:Mem w (l1++(bD pG (some (b,cs,c)) fs.length++L)) ro) (hR:ag 5 (some (b,cs,c)) fs.length (ax cD fs)) (jd n:Int) {k:Nat} (hk:k < fs.length) (hix:uS fs jd=k) (hset:∀ g:FSt,dx fs jd g=fs.set k { fs[k] with s:=g }) (hok:aR fs[k].s) :
  Calls Tryz.prog 90 #[Pt pG,Vi jd,Vi n] w fun e w'=>e=.returned (Vi (aS fs[k].s n).1)∧∃ RF',ag 5 RF' (dx fs jd (aS fs[k].s n).2).length (ax cD (dx fs jd (aS fs[k].s n).2))∧Mem w' (l1++(bD pG RF' fs.length++L)) ro:=by
 obtain ⟨ok1,ok2,ok3,ok4⟩:=id hok
 obtain ⟨r1,r2,r3,r4,r5⟩:=id hR
 dsimp only at r2 r3 r4
 have hfr:fs[k].s.free=fs[k].s.al - fs[k].s.sp - fs[k].s.en:=rfl
 have hsm:dx fs jd fs[k].s=fs:=by rw [hset]; exact List.set_getElem_self _
 have hmx:=cV hR
 unfold maxLen at hmx
 refine ay hm Tryz.func90 rfl Tryz.ntmps90 rfl ?_
 refine Rn [3,1,9,0,0] ?_
 refine Xc (v:=Vi ((k:Nat):Int)) rfl Tryz.func139 rfl (fun w1 hw1=>by
  have h:=iC (id:=jd) w1 (aa (vs:=[au _ fs.length]) (List.mem_append_right _ (.head _)) rfl w1 hw1) (hw1.rowIn (fun p hp=>(List.mem_append_right _ (.tail _ (List.mem_append_left _ hp))))) hR
  rw [hix] at h; exact h) ?_
 refine Rn [1,2,5,3,0,24,2,12] fun b12 hb12=>Aw (fun hc12=>?_) fun hc12=>?_
 ·omega
 refine Rn [16,5,3,0,24,2,12] fun b14 hb14=>Aw (fun hc14=>?_) fun hc14=>?_
 ·refine Rn [3,1,2,6,8] ?_
  refine aw rfl rfl (fun w' hm'=>⟨?_,some (b,cs,c),?_,hm'⟩)
  ·unfold aS; rw [if_pos (by omega)]
  unfold aS; rw [if_pos (by omega),hsm]; exact hR
 refine Rn [16,5,3,0,0,11,152,7,0,46,152] ?_
 refine Xl rfl u3 rfl (aa (vs:=cs) (List.mem_append_right _ (.tail _ (.head _))) (cg bF hR hk (j:=4) rfl)) ?_
 refine Rn [60,2,12] fun b24 hb24=>Aw (fun hc24=>?_) fun hc24=>?_
 ·refine Rn [3,1,2,6,8] ?_
  refine aw rfl rfl (fun w' hm'=>⟨?_,some (b,cs,c),?_,hm'⟩)
  ·unfold aS; rw [if_neg (by omega),if_pos (by omega)]
  unfold aS; rw [if_neg (by omega),if_pos (by omega),hsm]; exact hR
 refine Rn [16,5] ?_
 refine bc 17 ?_
 refine Rn [0,11,152,7,0,0,11,152,7,0,46,152] ?_
 refine Xl rfl u3 rfl (aa (vs:=cs) (List.mem_append_right _ (.tail _ (.head _))) (cg bF hR hk (j:=4) rfl)) ?_
 refine Rn [0,54,46,152] ?_
 refine aG (cs:=cs) (off:=0+k*5+4) (e:=71) (l2:=L) (l1++[(Bk pG [au (some (b,cs,c)) fs.length] 122)]) rfl rfl rfl (by simp [bD,aA]) cT rfl (by omega) ?_
 refine Rn [9,1,2,6] ?_
 refine aw rfl rfl (fun w' hm'=>⟨?_,some (b,(cs.take (0+k*5+4)++(Vi (fs[k].s.en - n)).cells.toList++cs.drop (0+k*5+4+1)),c),?_,hm'.to (by simp [bD,aA] <;> rfl)⟩)
 ·unfold aS; rw [if_neg (by omega),if_neg (by omega)]
 unfold aS; rw [if_neg (by omega),if_neg (by omega),hset]
 have h:=nF bF (n:=fs.length) hR hk ({ fs[k] with s:={ fs[k].s with en:=fs[k].s.en - n } }) (j:=4) (m:=1) (vs:=(Vi (fs[k].s.en - n)).cells.toList) rfl (by decide) rfl
 rw [show k*5+4=0+k*5+4 by omega] at h
 rw [List.length_set]; exact h
theorem r_rel {w:World} {l1 L:List (Nat×Obj)} {ro:List av} {pG:Nat} {RF:ak} {fs:List FG} (hm:Mem w (l1++(bD pG RF fs.length++L)) ro) (hR:ag 5 RF fs.length (ax cD fs)) (jd n:Int) (hfk:∀ f∈fs,aR f.s):Calls Tryz.prog 90 #[Pt pG,Vi jd,Vi n] w fun e w'=>e=.returned (Vi (ap aS fs jd n).1)∧∃ RF',ag 5 RF' (ap aS fs jd n).2.length (ax cD (ap aS fs jd n).2)∧Mem w' (l1++(bD pG RF' (ap aS fs jd n).2.length++L)) ro:=by
 unfold ap
 cases hl:fl fs jd with
 | none=>exact (r_relM hm hR jd n (pu hl)).mono fun e w2 h=>⟨h.1,RF,hR,h.2⟩
 | some f =>
  obtain ⟨k,hk,h1,rfl,h3,h4⟩:=pr hl
  obtain ⟨b,cs,c,rfl⟩:=bN bF (by decide) hR hk
  refine (r_rel1 hm hR jd n hk h1 h4 (hfk _ (List.getElem_mem hk))).mono fun e w2 ⟨h5,R2,h6,h7⟩=>⟨h5,R2,h6,?_⟩
  show Mem w2 (l1++(bD pG R2 (dx fs jd (aS fs[k].s n).2).length++L)) ro
  rw [h4,List.length_set]; exact h7
theorem r_spdM {w:World} {l1 L:List (Nat×Obj)} {ro:List av} {pG:Nat} {RF:ak} {fs:List FG} (hm:Mem w (l1++(bD pG RF fs.length++L)) ro) (hR:ag 5 RF fs.length (ax cD fs)) (jd n:Int) (hix:uS fs jd=-1) :
  Calls Tryz.prog 145 #[Pt pG,Vi jd,Vi n] w fun e w'=>e=.returned (Vi 32)∧Mem w' (l1++(bD pG RF fs.length++L)) ro:=by
 refine ay hm Tryz.func145 rfl Tryz.ntmps145 rfl ?_
 refine Rn [3,1,9,0,0] ?_
 refine Xc (v:=Vi (-1)) rfl Tryz.func139 rfl (fun w1 hw1=>by
  have h:=iC (id:=jd) w1 (aa (vs:=[au _ fs.length]) (List.mem_append_right _ (.head _)) rfl w1 hw1) (hw1.rowIn (fun p hp=>(List.mem_append_right _ (.tail _ (List.mem_append_left _ hp))))) hR
  rw [hix] at h; exact h) ?_
 refine Rn [1,2,5,3,0,24,2,12] fun b12 hb12=>Aw (fun hc12=>?_) fun hc12=>?_
 ·refine Rn [3,1,2,6,8] ?_
  exact aw rfl rfl (fun w' hm'=>⟨rfl,hm'⟩)
 omega
theorem r_spd1 {w:World} {l1 L:List (Nat×Obj)} {ro:List av} {pG:Nat} {b c:Nat} {cs:List Value} {fs:List FG} (hm:Mem w (l1++(bD pG (some (b,cs,c)) fs.length++L)) ro) (hR:ag 5 (some (b,cs,c)) fs.length (ax cD fs)) (jd n:Int) {k:Nat} (hk:k < fs.length) (hix:uS fs jd=k) (hset:∀ g:FSt,dx fs jd g=fs.set k { fs[k] with s:=g }) (hok:aR fs[k].s) :
  Calls Tryz.prog 145 #[Pt pG,Vi jd,Vi n] w fun e w'=>e=.returned (Vi (bK fs[k].s n).1)∧∃ RF',ag 5 RF' (dx fs jd (bK fs[k].s n).2).length (ax cD (dx fs jd (bK fs[k].s n).2))∧Mem w' (l1++(bD pG RF' fs.length++L)) ro:=by
 obtain ⟨ok1,ok2,ok3,ok4⟩:=id hok
 obtain ⟨r1,r2,r3,r4,r5⟩:=id hR
 dsimp only at r2 r3 r4
 have hfr:fs[k].s.free=fs[k].s.al - fs[k].s.sp - fs[k].s.en:=rfl
 have hsm:dx fs jd fs[k].s=fs:=by rw [hset]; exact List.set_getElem_self _
 have hmx:=cV hR
 unfold maxLen at hmx
 refine ay hm Tryz.func145 rfl Tryz.ntmps145 rfl ?_
 refine Rn [3,1,9,0,0] ?_
 refine Xc (v:=Vi ((k:Nat):Int)) rfl Tryz.func139 rfl (fun w1 hw1=>by
  have h:=iC (id:=jd) w1 (aa (vs:=[au _ fs.length]) (List.mem_append_right _ (.head _)) rfl w1 hw1) (hw1.rowIn (fun p hp=>(List.mem_append_right _ (.tail _ (List.mem_append_left _ hp))))) hR
  rw [hix] at h; exact h) ?_
 refine Rn [1,2,5,3,0,24,2,12] fun b12 hb12=>Aw (fun hc12=>?_) fun hc12=>?_
 ·omega
 refine Rn [16,5,3,0,24,2,12] fun b14 hb14=>Aw (fun hc14=>?_) fun hc14=>?_
 ·refine Rn [3,1,2,6,8] ?_
  refine aw rfl rfl (fun w' hm'=>⟨?_,some (b,cs,c),?_,hm'⟩)
  ·unfold bK; rw [if_pos (by omega)]
  unfold bK; rw [if_pos (by omega),hsm]; exact hR
 refine Rn [16,5,3,0,0,11,152,7,0,46] ?_
 refine Xv rfl (bj (vs:=eN fs[k]) wT rfl mo rfl (fun i hi=>aa (vs:=cs) (List.mem_append_right _ (.tail _ (.head _))) (cg bF hR hk (List.getElem?_eq_getElem hi)))) ?_
 refine Xc rfl Tryz.func140 rfl (fun w1 hw1=>r_free fs[k] w1 hok) ?_
 refine Rn [60,2,12] fun b24 hb24=>Aw (fun hc24=>?_) fun hc24=>?_
 ·refine Rn [3,1,2,6,8] ?_
  refine aw rfl rfl (fun w' hm'=>⟨?_,some (b,cs,c),?_,hm'⟩)
  ·unfold bK; rw [if_neg (by omega),if_pos (by omega)]
  unfold bK; rw [if_neg (by omega),if_pos (by omega),hsm]; exact hR
 refine Rn [16,5] ?_
 refine bc 17 ?_
 refine Rn [0,11,152,7,0,0,11,152,7,0,46,152] ?_
 refine Xl rfl u3 rfl (aa (vs:=cs) (List.mem_append_right _ (.tail _ (.head _))) (cg bF hR hk (j:=3) rfl)) ?_
 refine Rn [0,26,46,152] ?_
 refine aG (cs:=cs) (off:=0+k*5+3) (e:=71) (l2:=L) (l1++[(Bk pG [au (some (b,cs,c)) fs.length] 122)]) rfl rfl rfl (by simp [bD,aA]) cT rfl (by omega) ?_
 refine Rn [9,1,2,6] ?_
 refine aw rfl rfl (fun w' hm'=>⟨?_,some (b,(cs.take (0+k*5+3)++(Vi (fs[k].s.sp+n)).cells.toList++cs.drop (0+k*5+3+1)),c),?_,hm'.to (by simp [bD,aA] <;> rfl)⟩)
 ·unfold bK; rw [if_neg (by omega),if_neg (by omega)]
 unfold bK; rw [if_neg (by omega),if_neg (by omega),hset]
 have h:=nF bF (n:=fs.length) hR hk ({ fs[k] with s:={ fs[k].s with sp:=fs[k].s.sp+n } }) (j:=3) (m:=1) (vs:=(Vi (fs[k].s.sp+n)).cells.toList) rfl (by decide) rfl
 rw [show k*5+3=0+k*5+3 by omega] at h
 rw [List.length_set]; exact h
theorem r_spd {w:World} {l1 L:List (Nat×Obj)} {ro:List av} {pG:Nat} {RF:ak} {fs:List FG} (hm:Mem w (l1++(bD pG RF fs.length++L)) ro) (hR:ag 5 RF fs.length (ax cD fs)) (jd n:Int) (hfk:∀ f∈fs,aR f.s):Calls Tryz.prog 145 #[Pt pG,Vi jd,Vi n] w fun e w'=>e=.returned (Vi (ap bK fs jd n).1)∧∃ RF',ag 5 RF' (ap bK fs jd n).2.length (ax cD (ap bK fs jd n).2)∧Mem w' (l1++(bD pG RF' (ap bK fs jd n).2.length++L)) ro:=by
 unfold ap
 cases hl:fl fs jd with
 | none=>exact (r_spdM hm hR jd n (pu hl)).mono fun e w2 h=>⟨h.1,RF,hR,h.2⟩
 | some f =>
  obtain ⟨k,hk,h1,rfl,h3,h4⟩:=pr hl
  obtain ⟨b,cs,c,rfl⟩:=bN bF (by decide) hR hk
  refine (r_spd1 hm hR jd n hk h1 h4 (hfk _ (List.getElem_mem hk))).mono fun e w2 ⟨h5,R2,h6,h7⟩=>⟨h5,R2,h6,?_⟩
  show Mem w2 (l1++(bD pG R2 (dx fs jd (bK fs[k].s n).2).length++L)) ro
  rw [h4,List.length_set]; exact h7
open Go.RowKit Go.PK
theorem yf {pG:Nat} {R:ak} {fs:List FG} (w:World) (h1:w.cell? ⟨pG,0,none⟩=some (au R fs.length)) (hin:rowIn w 71 R) (hR:ag 5 R fs.length (ax cD fs)) (hn:fs.length≤5000) (hbd:∀ f∈fs,0≤f.s.al∧f.s.al≤1000000000000000) :
  Calls Tryz.prog 143 #[Pt pG] w fun e w'=>e=.returned (Vi (fH fs))∧Later w w':=by
 have hmx:=cV hR
 unfold maxLen at hmx
 refine enter Tryz.func143 rfl Tryz.ntmps143 rfl ?_
 refine Rn [3,1,9,1,2,5,3,1,2,14] ?_
 refine aO (σ:=Nat) (fun k=>k≤fs.length) (fun k=>[(0,Pt pG),(3,Vi (fH (fs.take k))),(4,Vi (k:Nat))]) (fun k=>[]) (fun k=>[(w,fun _=>True)]) (fun k=>fs.length - k) (0) ((Nat.zero_le _)) (aC Zu (fun _ h=>h)) ?_
 rintro k hkl
 refine Rn [5,3,0,0,11,152] ?_
 refine Xl rfl jn rfl (an (.head _) trivial h1) ?_
 refine Rn [31,24,2,12] fun b11 hb11=>Aw (fun hc11=>?_) fun hc11=>?_
 ·have hk:k < fs.length:=by omega
  obtain ⟨b,cs,c,rfl⟩:=bN bF (by decide) hR hk
  have hs1:=mK hk
  have hb1:=mL (by decide) hbd k
  have hb2:=hbd _ (List.getElem_mem hk)
  have hkk:(k:Int)≤5000:=by omega
  refine Rn [16,5,14,18,0,0,11,152] ?_
  refine Xl rfl jn rfl (an (.head _) trivial h1) ?_
  refine Rn [0,46,152] ?_
  refine Xl rfl u3 rfl (an (.head _) trivial (hin.cell (cg bF hR hk (j:=2) rfl))) (Xv rfl (bg (c:=fH (fs.take (k+1))) rfl rfl hs1.symm (by omega)) ?_)
  refine Rn [1,13,27,17,18,0,26,1,13] ?_
  exact aJ (k+1) hk (by show fs.length - (k+1) < fs.length - k; omega) Zu (fun _ h=>h)
 refine Rn [34,19,19,35,17,3,0,1,2,6] ?_
 refine aw rfl rfl (fun w' hm=>⟨?_,hm.b⟩)
 obtain rfl:k=fs.length:=by omega
 rw [List.take_length]
theorem wn {pG:Nat} {R:ak} {fs:List FG} (w:World) (h1:w.cell? ⟨pG,0,none⟩=some (au R fs.length)) (hin:rowIn w 71 R) (hR:ag 5 R fs.length (ax cD fs)) (hn:fs.length≤5000) (hen:∀ e∈fs,fgN e) :
  Calls Tryz.prog 76 #[Pt pG] w fun e w'=>e=.returned (.string ⟨(cF (er fs)).toArray⟩)∧Later w w':=by
 have hmx:=cV hR
 unfold maxLen at hmx
 refine enter Tryz.func76 rfl Tryz.ntmps76 rfl ?_
 refine Rn [3,1,9,1,2,5,3,1,2,14] ?_
 refine aO (σ:=Nat×ak) (fun x=>x.1≤fs.length∧ag 1 x.2 (x.1*5) ((er (fs.take x.1)).map (Value.int .i64))) (fun x=>[(0,Pt pG),(3,au x.2 (x.1*5)),(4,Vi (x.1:Nat))]) (fun x=>aA 3 x.2) (fun x=>[(w,fun _=>True)]) (fun x=>fs.length - x.1) ((0,none)) (⟨Nat.zero_le _,bG⟩) (aC Zu (fun _ h=>h)) ?_
 rintro ⟨k,S⟩ ⟨hkL,hS⟩
 refine Rn [144] ?_
 dsimp only at hkL hS
 refine Rn [5,3,0,0,11,152] ?_
 refine Xl rfl jn rfl (an (.head _) trivial h1) ?_
 refine Rn [31,24,2,12] fun b12 hb12=>Aw (fun hc12=>?_) fun hc12=>?_
 ·have hk:k < fs.length:=by omega
  obtain ⟨b,cs,c,rfl⟩:=bN bF (by decide) hR hk
  refine Rn [16,5,14,3,0,11,152] ?_
  refine Xl rfl jn rfl (an (.head _) trivial h1) ?_
  refine Rn [0,46] ?_
  refine Xv rfl (bj (vs:=cD fs[k]) wT rfl mo rfl (fun i hi=>an (.head _) trivial (hin.cell (cg bF hR hk (List.getElem?_eq_getElem hi))))) ?_
  refine Rn [28,32,2,18,0,152,7,152,7,152,7,152,7,152,7] fun p5=>?_
  refine ac (cs:=(cD fs[k])) rfl rfl rfl ij cT rP rfl rfl rfl ?_
  intro p33
  refine be (e:=3) [(Bk p33 (cD fs[k]) 3),(Bk p5 (cD fs[k]) 71)] (l2:=[]) S (len:=k*5) (xs:=((er (fs.take k)).map (Value.int .i64))) rfl rfl rfl rfl (by simp only [List.append_nil]; rfl) hS ij ap3 rfl rfl (m:=5) (news:=(cD fs[k])) (fun i hi=>aa (vs:=(cD fs[k])) (.head _) (by rw [Nat.zero_add]; exact List.getElem?_eq_getElem hi)) rfl Zx (by omega) fun S' hS'=>?_
  rw [List.append_nil]
  refine Rn [1,13,27,17,18,0,26,1,13] ?_
  exact aJ (x:=(k,S)) (μ:=fun q:Nat×ak=>fs.length - q.1) (k+1,S') ⟨hk,by dsimp only; rw [er,ks xP hk,List.map_append,show (k+1)*5=k*5+5 by omega]; exact hS'⟩ (by simp only; omega) (by dsimp only; rw [show (k+1)*5=k*5+5 by omega]; exact Zu) (fun w1 h=>h.less (((List.Sublist.refl _).cons _).cons _) (fun _ h=>h))
 obtain rfl:k=fs.length:=by omega
 rw [List.take_length] at hS
 refine Rn [34,19,19,35,17,3,0] ?_
 refine Xc (v:=Value.string ⟨(cF (er fs)).toArray⟩) rfl Tryz.func44 rfl (fun w1 hw1=>xy w1 (dy (D:=fun _=>True) (e:=3) hS (fS fs).symm (ku hen) hw1 (fun q hq=>hq) (fun _ _=>trivial)) (by rw [fS]; omega)) ?_
 refine Rn [1,2,6] ?_
 refine aw rfl rfl (fun w' hm=>⟨?_,hm.b⟩)
 rfl
theorem r_EncO {pR:Nat} {R:ak} {es:List EN} (w:World) (h1:w.cell? ⟨pR,2,none⟩=some (au R es.length)) (hin:rowIn w 144 R) (hR:ag 10 R es.length (ax du es)) (hn:es.length≤5000) (hen:∀ e∈es,xC e) :
  Calls Tryz.prog 41 #[Pt pR] w fun e w'=>e=.returned (.string ⟨(cF (jG es)).toArray⟩)∧Later w w':=by
 have hmx:=cV hR
 unfold maxLen at hmx
 refine enter Tryz.func41 rfl Tryz.ntmps41 rfl ?_
 refine Rn [3,1,9,1,2,5,3,1,2,14] ?_
 refine aO (σ:=Nat×ak) (fun x=>x.1≤es.length∧ag 1 x.2 (x.1*10) ((jG (es.take x.1)).map (Value.int .i64))) (fun x=>[(0,Pt pR),(3,au x.2 (x.1*10)),(4,Vi (x.1:Nat))]) (fun x=>aA 3 x.2) (fun x=>[(w,fun _=>True)]) (fun x=>es.length - x.1) ((0,none)) (⟨Nat.zero_le _,bG⟩) (aC Zu (fun _ h=>h)) ?_
 rintro ⟨k,S⟩ ⟨hkL,hS⟩
 refine Rn [144] ?_
 dsimp only at hkL hS
 refine Rn [5,3,0,0,11,152] ?_
 refine Xl rfl mW rfl (an (.head _) trivial h1) ?_
 refine Rn [31,24,2,12] fun b12 hb12=>Aw (fun hc12=>?_) fun hc12=>?_
 ·have hk:k < es.length:=by omega
  obtain ⟨b,cs,c,rfl⟩:=bN bf (by decide) hR hk
  refine Rn [16,5,14,3,0,11,152] ?_
  refine Xl rfl mW rfl (an (.head _) trivial h1) ?_
  refine Rn [0,46,152] ?_
  refine Xv rfl (bj (vs:=es[k].1.cells) f4 rfl cm rfl (fun i hi=>an (.head _) trivial (hin.cell (cg bf hR hk (j:=i) (by rw [show du es[k]=es[k].1.cells++[Vi es[k].2] from rfl,List.getElem?_append_left hi]; exact List.getElem?_eq_getElem hi))))) ?_
  refine Rn [28,32,2] fun p5=>?_
  refine ew 30 [(true,0),(true,1),(true,2),(true,3),(true,4),(true,5),(true,6),(true,7),(true,8),(true,9),(true,10),(true,11),(true,12),(true,13),(true,14),(true,15),(true,16),(true,17),(true,18),(true,19),(true,20),(true,21),(true,22),(true,23),(true,24),(true,25),(true,26),(true,27),(true,28),(false,29)] Zk Zk ?_
  refine Rn [0,152,7,152,7,152,152,7,152,152,7,152,7,152,7,152,7,152,7,152,7,0,11,152] ?_
  refine Xl rfl mW rfl (an (.head _) trivial h1) ?_
  refine Rn [0,46,152] ?_
  refine Xl rfl u3 rfl (an (.head _) trivial (hin.cell (cg bf hR hk (j:=9) rfl))) ?_
  refine ac (cs:=(du es[k])) rfl rfl rfl ij cT rP rfl rfl rfl ?_
  intro p52
  refine be (e:=3) [(Bk p52 (du es[k]) 3),(Bk p5 (es[k].1.cells) 25)] (l2:=[]) S (len:=k*10) (xs:=((jG (es.take k)).map (Value.int .i64))) rfl rfl rfl rfl (by simp only [List.append_nil]; rfl) hS ij ap3 rfl rfl (m:=10) (news:=(du es[k])) (fun i hi=>aa (vs:=(du es[k])) (.head _) (by rw [Nat.zero_add]; exact List.getElem?_eq_getElem hi)) rfl Zx (by omega) fun S' hS'=>?_
  rw [List.append_nil]
  refine Rn [1,13,27,17,18,0,26,1,13] ?_
  exact aJ (x:=(k,S)) (μ:=fun q:Nat×ak=>es.length - q.1) (k+1,S') ⟨hk,by dsimp only; rw [jG,ks Ai hk,List.map_append,show (k+1)*10=k*10+10 by omega]; exact hS'⟩ (by simp only; omega) (by dsimp only; rw [show (k+1)*10=k*10+10 by omega]; exact Zu) (fun w1 h=>h.less (((List.Sublist.refl _).cons _).cons _) (fun _ h=>h))
 obtain rfl:k=es.length:=by omega
 rw [List.take_length] at hS
 refine Rn [34,19,19,35,17,3,0] ?_
 refine Xc (v:=Value.string ⟨(cF (jG es)).toArray⟩) rfl Tryz.func44 rfl (fun w1 hw1=>xy w1 (dy (D:=fun _=>True) (e:=3) hS (j5 es).symm (xQ hen) hw1 (fun q hq=>hq) (fun _ _=>trivial)) (by rw [j5]; omega)) ?_
 refine Rn [1,2,6] ?_
 refine aw rfl rfl (fun w' hm=>⟨?_,hm.b⟩)
 rfl
theorem r_near {pR:Nat} {tr tol:Int} (htr:tol=min (max tr 0) 1000000) (p q:Int) (w:World) (h1:w.cell? ⟨pR,1,none⟩=some (Vi tr)) (hp:0≤p∧p≤999999999) (hq:0≤q∧q≤999999999) :
  Calls Tryz.prog 87 #[Pt pR,Vi p,Vi q] w fun e w'=>e=.returned (.bool (decide (lQ tol p q)))∧Later w w':=by
 have hmul:=mul9 (a:=1000000) (b:=999999999) (show 0≤min (max tr 0) 1000000∧min (max tr 0) 1000000≤1000000 by omega) hq
 refine enter Tryz.func87 rfl Tryz.ntmps87 rfl ?_
 refine Rn [3,1,9,0,11,4] ?_
 refine Xl rfl u3 rfl (an (.head _) trivial h1) (Xv (v:=Vi (max tr 0)) rfl (kG rfl rfl) (Xv (v:=Vi (min (max tr 0) 1000000)) rfl (tG rfl rfl) ?_))
 refine Rn [1,9,0,0,54,0,0,54] ?_
 refine Xv rfl (kG rfl rfl) (Xv rfl (cY rfl rfl rfl Zo) ?_)
 refine Rn [0,0] ?_
 refine Xv rfl (cY rfl rfl rfl Zo) ?_
 refine Rn [85,1,2,6] fun b25 hb25=>?_
 refine aw rfl rfl (fun w' hm=>⟨?_,hm.b⟩)
 rw [hb25,htr]; rfl
theorem r_res (x:PK.Ord) (w:World) (hx:dm x) :
  Calls Tryz.prog 88 #[.agg x.cells.toArray] w fun e w'=>e=.returned (Vi (aL x))∧Later w w':=by
 obtain ⟨⟨o1,o2⟩,⟨o3,o4⟩,⟨o5,o6⟩,⟨o7,o8⟩,⟨o9,o10⟩,⟨o11,o12⟩,⟨o13,o14⟩,⟨o15,o16⟩,o17,o18⟩:=show dm x from hx
 have hmul:=vS hx
 unfold aL at hmul
 refine enter Tryz.func88 rfl Tryz.ntmps88 rfl ?_
 refine Rn [3,36,1,9,4,7,4,7,54,4,7] fun p1=>?_
 refine Xv rfl (cY rfl rfl rfl Zo) ?_
 refine Rn [1,2,6] ?_
 refine aw rfl rfl (fun w' hm=>⟨?_,hm.b⟩)
 rfl
theorem r_New (w:World) :
  Calls Tryz.prog 21 #[] w fun e w'=>∃ q:Nat,e=.returned (Pt q)∧Mem w' (bD q none 0) [(w,fun _=>True)]:=by
 refine enter Tryz.func21 rfl Tryz.ntmps21 rfl ?_
 refine Rn [3,1,9] ?_
 refine Xv (v:=Value.agg [Value.slice none 0 0].toArray) rfl (aH (cs:=[Value.slice none 0 0]) (places:=[(0,1)]) u122 wM Zk rfl rfl) ?_
 refine Rn [36,1,2,6] fun p2=>?_
 exact aw rfl rfl (fun w' hm=>⟨_,rfl,hm⟩)
theorem r_NewO {pG:Nat} (tr:Int) (w:World) :
  Calls Tryz.prog 77 #[Pt pG,Vi tr] w fun e w'=>∃ q:Nat,e=.returned (Pt q)∧Mem w' [(Bk q [Pt pG,Vi tr,au none 0] 91)] [(w,fun _=>True)]:=by
 refine enter Tryz.func77 rfl Tryz.ntmps77 rfl ?_
 refine Rn [3,1,9,0,0] ?_
 refine Xv (v:=Value.agg [Pt pG,Vi tr,.slice none 0 0].toArray) rfl (aH (cs:=[Pt pG,Vi tr,.slice none 0 0]) (places:=[(0,1),(1,1),(2,1)]) u91 zr91 Zk rfl rfl) ?_
 refine Rn [36,1,2,6] fun p8=>?_
 exact aw rfl rfl (fun w' hm=>⟨_,rfl,hm⟩)
theorem r_right (g:FG) (w:World) (hg:fgN g) :
  Calls Tryz.prog 142 #[.agg (eN g).toArray] w fun e w'=>e=.returned (.bool (true))∧Later w w':=by
 obtain ⟨⟨g1,g2⟩,⟨g3,g4⟩,g5,g6,g7,g8⟩:=id hg
 refine enter Tryz.func142 rfl Tryz.ntmps142 rfl ?_
 refine Rn [3,36,1,2,5,3,4,7,24,0,22,40,72,25,0,22,40,72] fun p1 b5 hb5 b9 hb9 b10 hb10 b14 hb14=>?_
 refine Rn [25,0,22,40,72,25,0,22,40,72] fun b15 hb15 b19 hb19 b20 hb20 b24 hb24=>?_
 refine Rn [25,0,22,40,63,25,2,10] fun b25 hb25 b29 hb29 b30 hb30=>Aw (fun hc30=>?_) fun hc30=>?_
 ·simp only [hb30,hb29,hb25,hb24,hb20,hb19,hb15,hb14,hb10,hb9,hb5,Qz,ne_eq] at hc30
  omega
 simp only [hb30,hb29,hb25,hb24,hb20,hb19,hb15,hb14,hb10,hb9,hb5,Qz,ne_eq] at hc30
 refine Rn [23,4,7,4,7,85,0,22,40,22,40,22,40,80,67,30,1,2,6] fun b35 hb35 b44 hb44 b45 hb45=>?_
 refine aw rfl rfl (fun w' hm=>⟨?_,hm.b⟩)
 have:b45=true:=by rw [hb45,hb44,hb35]; simp; omega
 rw [this]
theorem r_ends {pG:Nat} {R:ak} {fs:List FG} (w:World) (h1:w.cell? ⟨pG,0,none⟩=some (au R fs.length)) (hin:rowIn w 71 R) (hR:ag 5 R fs.length (ax cD fs)) (hE:∀ k (hk:k < fs.length),fs[k].par=0∨∃ j,∃ hj:j < fs.length,uS fs fs[k].par=(j:Nat)∧fs[j].par=0) {k0:Nat} (hk0:k0 < fs.length) :
  Calls Tryz.prog 144 #[Pt pG,Vi (k0:Nat)] w fun e w'=>e=.returned (.bool (true))∧Later w w':=by
 have hmx:=cV hR
 unfold maxLen at hmx
 refine enter Tryz.func144 rfl Tryz.ntmps144 rfl ?_
 refine Rn [3,1,2,5,3,1,2,14] ?_
 refine aO (σ:=Nat×Nat) (fun z=>z.2 < fs.length∧(z.1=0∨z.1=1∧∀ hk:z.2 < fs.length,fs[z.2].par=0)) (fun z=>[(0,Pt pG),(1,Vi (z.2:Nat)),(5,Vi (z.1:Nat))]) (fun z=>[]) (fun z=>[(w,fun _=>True)]) (fun z=>2 - z.1) ((0,k0)) (⟨hk0,.inl rfl⟩) (aC Zu (fun _ h=>h)) ?_
 rintro ⟨m,k⟩ ⟨hk,hmk⟩
 refine Rn [144] ?_
 dsimp only at hk hmk
 refine Rn [5,3,0,0,11,152] ?_
 refine Xl rfl jn rfl (an (.head _) trivial h1) ?_
 refine Rn [31,85,2,12] fun b12 hb12=>Aw (fun hc12=>?_) fun hc12=>?_
 ·obtain ⟨b,cs,c,rfl⟩:=bN bF (by decide) hR hk
  refine Rn [16,5,14,5,3,0,11,152] ?_
  refine Xl rfl jn rfl (an (.head _) trivial h1) ?_
  refine Rn [0,46,152] ?_
  refine Xl rfl u3 rfl (an (.head _) trivial (hin.cell (cg bF hR hk (j:=1) rfl))) ?_
  refine Rn [38,2,12] fun b23 hb23=>Aw (fun hc23=>?_) fun hc23=>?_
  ·refine Rn [3,1,2,6,8,15,8,8,15,8] ?_
   refine aw rfl rfl (fun w' hm=>⟨?_,hm.b⟩)
   rfl
  have hm0:m=0:=by
   rcases hmk with h | ⟨_,h⟩
   ·exact h
   exact absurd (h hk) hc23
  subst hm0
  obtain ⟨j,hj,hji,hj0⟩:∃ j,∃ hj:j < fs.length,uS fs fs[k].par=(j:Nat)∧fs[j].par=0:=by
   rcases hE k hk with h | h
   ·exact absurd h hc23
   exact h
  refine Rn [23,0,0,11,152] ?_
  refine Xl rfl jn rfl (an (.head _) trivial h1) ?_
  refine Rn [0,46,152] ?_
  refine Xl rfl u3 rfl (an (.head _) trivial (hin.cell (cg bF hR hk (j:=1) rfl))) ?_
  refine Xc (v:=Vi ((j:Nat):Int)) rfl Tryz.func139 rfl (fun w1 hw1=>by
   have h:=iC (id:=fs[k].par) w1 (an (.head _) trivial h1 w1 hw1) (hin.later hw1.b) hR
   rw [hji] at h; exact h) ?_
  refine Rn [1,9,0,24,2,12] fun b35 hb35=>Aw (fun hc35=>?_) fun hc35=>?_
  ·omega
  refine Rn [45,27,17,18,0,26,1,13] ?_
  exact aJ (1,j) ⟨hj,.inr ⟨rfl,fun _=>hj0⟩⟩ (by simp only; omega) Zu (fun _ h=>h)
 omega
open Go.RowKit Go.PK
theorem ap71:(Tryz.prog.info? 71).map (fun j=>(j.zero,j.size,j.bytes))=some (some (.agg #[Vi 0,Vi 0,Vi 0,Vi 0,Vi 0]),5,40):=by kernel_rfl
theorem r_AddS {w:World} {l1 L:List (Nat×Obj)} {ro:List av} {pG:Nat} {fs:List FG} {jd jp am:Int} (hjd:1≤jd∧jd≤1000000000) (ham:0≤am∧am≤1000000) (hno:uS fs jd=-1) (hbd:∀ f∈fs,0≤f.s.al∧f.s.al≤1000000) (hlen:0 < fs.length∧fs.length≤10) {b c:Nat} {cs:List Value} {jx:Nat} (hp0:jp≠0∧0≤jp) (hjp:uS fs jp=(jx:Nat)) (hlast:∀ h:fs.length - 1 < fs.length,fs[fs.length - 1].id < jd) (hR:ag 5 (some (b,cs,c)) fs.length (ax cD fs)) (hm:Mem w (l1++(bD pG (some (b,cs,c)) fs.length++L)) ro) :
  Calls Tryz.prog 133 #[Pt pG,Vi jd,Vi jp,Vi am] w fun e w'=>e=.returned (Vi 0)∧∃ R',ag 5 R' (fs++[(⟨jd,jp,⟨am,0,0⟩⟩:FG)]).length (ax cD (fs++[(⟨jd,jp,⟨am,0,0⟩⟩:FG)]))∧Mem w' (l1++(bD pG R' (fs++[(⟨jd,jp,⟨am,0,0⟩⟩:FG)]).length++L)) ro:=by
 have hall:=mL (by decide) hbd fs.length
 rw [List.take_length] at hall
 have hln:(fs.length:Int)≤10:=by omega
 have hlast:=hlast (by omega)
 refine ay hm Tryz.func133 rfl Tryz.ntmps133 rfl ?_
 refine Rn [3,1,2,5,3,0,24] fun b12 hb12=>?_
 obtain rfl:b12=false:=hb12.trans (decide_eq_false (by omega))
 refine Rn [0,29,76] fun b15 hb15=>?_
 obtain rfl:b15=false:=hb15.trans (decide_eq_false (by omega))
 refine Rn [25] fun b16 hb16=>?_
 obtain rfl:b16=false:=hb16
 refine Rn [0,29,76] fun b19 hb19=>?_
 obtain rfl:b19=false:=hb19.trans (decide_eq_false (by omega))
 refine Rn [25] fun b20 hb20=>?_
 obtain rfl:b20=false:=hb20
 refine Rn [2,10] (Aw (fun hc20=>?_) fun hc20=>?_)
 ·cases hc20
 refine Rn [16,5,3,0,0] ?_
 refine Xc (v:=Vi (-1)) rfl Tryz.func139 rfl (fun w1 hw1=>by
  have h:=iC (id:=jd) w1 (aa (vs:=[au (some (b,cs,c)) fs.length]) (List.mem_append_right _ (.head _)) rfl w1 hw1) (hw1.rowIn (fun p hp=>(List.mem_append_right _ (.tail _ (List.mem_append_left _ hp))))) hR
  rw [hno] at h; exact h) ?_
 refine Rn [57,2,12] fun b24 hb24=>Aw (fun hc24=>?_) fun hc24=>?_
 ·omega
 refine Rn [16,5,3,0,37] fun b26 hb26=>?_
 obtain rfl:b26=true:=hb26.trans (decide_eq_true (by omega))
 refine Rn [0,29,29] ?_
 refine dc (v:=Vi ((jx:Nat):Int)) rfl rfl rfl rfl rfl Tryz.func139 Zk rfl (fun w1 hw1=>by
  have h:=iC (id:=jp) w1 (aa (vs:=[au (some (b,cs,c)) fs.length]) (List.mem_append_right _ (.head _)) rfl w1 hw1) (hw1.rowIn (fun p hp=>(List.mem_append_right _ (.tail _ (List.mem_append_left _ hp))))) hR
  rw [hjp] at h; exact h) ?_
 refine Rn [76] fun b31 hb31=>?_
 obtain rfl:b31=false:=hb31.trans (decide_eq_false (by omega))
 refine Rn [30] fun b32 hb32=>?_
 obtain rfl:b32=false:=hb32
 refine Rn [2,10] (Aw (fun hc32=>?_) fun hc32=>?_)
 ·cases hc32
 refine Rn [16,5,3,0,11,152,7,31,57] fun b38 hb38=>?_
 obtain rfl:b38=false:=hb38.trans (decide_eq_false (by omega))
 refine Rn [0,29,29] ?_
 refine dc (v:=Vi (fH fs)) rfl rfl rfl rfl rfl Tryz.func143 Zk rfl (fun w1 hw1=>yf w1 (aa (vs:=[au (some (b,cs,c)) fs.length]) (List.mem_append_right _ (.head _)) rfl w1 hw1) (hw1.rowIn (fun p hp=>(List.mem_append_right _ (.tail _ (List.mem_append_left _ hp))))) hR (by omega) (fun f hf=>by have:=hbd f hf; omega)) ?_
 refine Rn [86,68] fun b44 hb44=>?_
 obtain rfl:b44=false:=hb44.trans (decide_eq_false (by omega))
 refine Rn [25] fun b45 hb45=>?_
 obtain rfl:b45=false:=hb45
 refine Rn [2,10] (Aw (fun hc45=>?_) fun hc45=>?_)
 ·cases hc45
 refine Rn [23,0,0,11,152,7,0,0,0] ?_
 refine Xv (v:=Value.agg (eN ⟨jd,jp,⟨am,0,0⟩⟩).toArray) rfl (aH (cs:=eN ⟨jd,jp,⟨am,0,0⟩⟩) (places:=[(0,1),(1,1),(2,1),(3,1),(4,1)]) wT zK Zk rfl rfl) ?_
 refine ac (cs:=eN ⟨jd,jp,⟨am,0,0⟩⟩) rfl rfl rfl jn mo zK rfl rfl rfl ?_
 intro p55
 refine be (e:=71) ((Bk p55 (eN ⟨jd,jp,⟨am,0,0⟩⟩) 71)::(l1++[(Bk pG [au (some (b,cs,c)) fs.length] 122)])) (l2:=L) (some (b,cs,c)) (len:=fs.length) (xs:=ax cD fs) rfl rfl rfl rfl (by simp [bD,aA]) hR jn ap71 rfl rfl (m:=1) (news:=eN ⟨jd,jp,⟨am,0,0⟩⟩) (fun i hi=>aa (vs:=eN ⟨jd,jp,⟨am,0,0⟩⟩) (.head _) (by rw [Nat.zero_add]; exact List.getElem?_eq_getElem hi)) rfl Zx (by omega) fun R' hR'=>?_
 refine Rn [11,152] ?_
 refine aG (cs:=[au (some (b,cs,c)) fs.length]) (off:=0) (e:=122) (l2:=aA 71 R'++L) ((Bk p55 (eN ⟨jd,jp,⟨am,0,0⟩⟩) 71)::l1) rfl rfl rfl (by simp) qw rfl (by show 0+1≤1; decide) ?_
 refine Rn [2,5,5] ?_
 have hR2:ag 5 R' (fs++[(⟨jd,jp,⟨am,0,0⟩⟩:FG)]).length (ax cD (fs++[(⟨jd,jp,⟨am,0,0⟩⟩:FG)])):=by rw [List.length_append,ky,nD]; exact hR'
 obtain ⟨b2,cs2,c2,rfl⟩:=bN bF (by decide) hR2 (k:=fs.length) (by simp)
 refine dY (own':=(Bk p55 (eN ⟨jd,jp,⟨am,0,0⟩⟩) 71)::(l1++(bD pG (some (b2,cs2,c2)) (fs.length+1)++L))) (ro':=ro) (fun w1 h=>h.to (by simp [bD]; rfl)) ?_
 refine Rn [18,0,11,152,7,31] ?_
 refine Xv rfl (dH (c:=(fs.length:Nat)) rfl rfl (by omega) (by omega)) ?_
 refine Rn [1,2,14] ?_
 refine aO (σ:=Unit) (fun z=>True) (fun z=>[(0,Pt pG),(9,Vi (fs.length:Nat))]) (fun z=>(Bk p55 (eN ⟨jd,jp,⟨am,0,0⟩⟩) 71)::(l1++(bD pG (some (b2,cs2,c2)) (fs.length+1)++L))) (fun z=>ro) (fun z=>0) (()) (trivial) (aC Zu (fun _ h=>h)) ?_
 rintro _ _
 refine Zs (Zs ?_)
 refine bc 22 ?_
 refine Rn [0,60] fun b66 hb66=>?_
 obtain rfl:b66=true:=hb66.trans (decide_eq_true (by omega))
 refine Rn [0,29,82,154,50,29,89,154] ?_
 refine cz rfl rfl rfl rfl rfl (aW u3 rfl rfl (aa (vs:=cs2) (.tail _ (List.mem_append_right _ (.tail _ (.head _)))) (cg (l:=(fs++[(⟨jd,jp,⟨am,0,0⟩⟩:FG)])) bF hR2 (k:=fs.length) (by simp) (j:=0) (u:=Vi jd) (by rw [List.getElem_append_right (Nat.le_refl _)]; simp [cD])))) ?_
 refine Rn [29,82,154,50,29] ?_
 refine cz rfl rfl rfl rfl rfl (dH (c:=((fs.length - 1:Nat):Int)) rfl rfl (by omega) (by omega)) ?_
 refine Rn [89,154] ?_
 refine cz rfl rfl rfl rfl rfl (aW u3 rfl rfl (aa (vs:=cs2) (.tail _ (List.mem_append_right _ (.tail _ (.head _)))) (cg (l:=(fs++[(⟨jd,jp,⟨am,0,0⟩⟩:FG)])) bF hR2 (k:=fs.length - 1) (by simp; omega) (j:=0) (u:=Vi fs[fs.length - 1].id) (by rw [List.getElem_append_left (by omega)]; rfl)))) ?_
 refine Rn [76] fun b85 hb85=>?_
 obtain rfl:b85=false:=hb85.trans (decide_eq_false (by omega))
 refine Rn [30] fun b86 hb86=>?_
 obtain rfl:b86=false:=hb86
 refine Rn [2,10] (Aw (fun hc86=>?_) fun hc86=>?_)
 ·cases hc86
 refine Rn [34,19,19,35,17,3,1,2,6] ?_
 exact aw rfl rfl (fun w' hm'=>⟨rfl,some (b2,cs2,c2),hR2,(hm'.less Ls (fun _ h=>h)).to (by rw [List.length_append]; rfl)⟩)
theorem r_Add0 {w:World} {l1 L:List (Nat×Obj)} {ro:List av} {pG:Nat} {fs:List FG} {jd jp am:Int} (hjd:1≤jd∧jd≤1000000000) (ham:0≤am∧am≤1000000) (hno:uS fs jd=-1) (hbd:∀ f∈fs,0≤f.s.al∧f.s.al≤1000000) (hlen:fs.length=0) (hp0:jp=0) (hR:ag 5 none fs.length (ax cD fs)) (hm:Mem w (l1++(bD pG none fs.length++L)) ro) :
  Calls Tryz.prog 133 #[Pt pG,Vi jd,Vi jp,Vi am] w fun e w'=>e=.returned (Vi 0)∧∃ R',ag 5 R' (fs++[(⟨jd,jp,⟨am,0,0⟩⟩:FG)]).length (ax cD (fs++[(⟨jd,jp,⟨am,0,0⟩⟩:FG)]))∧Mem w' (l1++(bD pG R' (fs++[(⟨jd,jp,⟨am,0,0⟩⟩:FG)]).length++L)) ro:=by
 have hall:=mL (by decide) hbd fs.length
 rw [List.take_length] at hall
 have hln:(fs.length:Int)≤10:=by omega
 refine ay hm Tryz.func133 rfl Tryz.ntmps133 rfl ?_
 refine Rn [3,1,2,5,3,0,24] fun b12 hb12=>?_
 obtain rfl:b12=false:=hb12.trans (decide_eq_false (by omega))
 refine Rn [0,29,76] fun b15 hb15=>?_
 obtain rfl:b15=false:=hb15.trans (decide_eq_false (by omega))
 refine Rn [25] fun b16 hb16=>?_
 obtain rfl:b16=false:=hb16
 refine Rn [0,29,76] fun b19 hb19=>?_
 obtain rfl:b19=false:=hb19.trans (decide_eq_false (by omega))
 refine Rn [25] fun b20 hb20=>?_
 obtain rfl:b20=false:=hb20
 refine Rn [2,10] (Aw (fun hc20=>?_) fun hc20=>?_)
 ·cases hc20
 refine Rn [16,5,3,0,0] ?_
 refine Xc (v:=Vi (-1)) rfl Tryz.func139 rfl (fun w1 hw1=>by
  have h:=iC (id:=jd) w1 (aa (vs:=[au none fs.length]) (List.mem_append_right _ (.head _)) rfl w1 hw1) (hw1.rowIn (fun p hp=>(List.mem_append_right _ (.tail _ (List.mem_append_left _ hp))))) hR
  rw [hno] at h; exact h) ?_
 refine Rn [57,2,12] fun b24 hb24=>Aw (fun hc24=>?_) fun hc24=>?_
 ·omega
 refine Rn [16,5,3,0,37] fun b26 hb26=>?_
 obtain rfl:b26=false:=hb26.trans (decide_eq_false (by omega))
 refine Rn [0,33,33,33,33] ?_
 refine Xb rfl (lz (v:=false) rfl rfl) fun b32 hb32=>?_
 obtain rfl:b32=false:=hb32
 refine Rn [2,10] (Aw (fun hc32=>?_) fun hc32=>?_)
 ·cases hc32
 refine Rn [16,5,3,0,11,4,7,31,57] fun b38 hb38=>?_
 obtain rfl:b38=false:=hb38.trans (decide_eq_false (by omega))
 refine Rn [0,29,29] ?_
 refine dc (v:=Vi (fH fs)) rfl rfl rfl rfl rfl Tryz.func143 Zk rfl (fun w1 hw1=>yf w1 (aa (vs:=[au none fs.length]) (List.mem_append_right _ (.head _)) rfl w1 hw1) (hw1.rowIn (fun p hp=>(List.mem_append_right _ (.tail _ (List.mem_append_left _ hp))))) hR (by omega) (fun f hf=>by have:=hbd f hf; omega)) ?_
 refine Rn [86,68] fun b44 hb44=>?_
 obtain rfl:b44=false:=hb44.trans (decide_eq_false (by omega))
 refine Rn [25] fun b45 hb45=>?_
 obtain rfl:b45=false:=hb45
 refine Rn [2,10] (Aw (fun hc45=>?_) fun hc45=>?_)
 ·cases hc45
 refine Rn [23,0,0,11,4,7,0,0,0] ?_
 refine Xv (v:=Value.agg (eN ⟨jd,jp,⟨am,0,0⟩⟩).toArray) rfl (aH (cs:=eN ⟨jd,jp,⟨am,0,0⟩⟩) (places:=[(0,1),(1,1),(2,1),(3,1),(4,1)]) wT zK Zk rfl rfl) ?_
 refine ac (cs:=eN ⟨jd,jp,⟨am,0,0⟩⟩) rfl rfl rfl jn mo zK rfl rfl rfl ?_
 intro p55
 refine be (e:=71) ((Bk p55 (eN ⟨jd,jp,⟨am,0,0⟩⟩) 71)::(l1++[(Bk pG [au none fs.length] 122)])) (l2:=L) none (len:=fs.length) (xs:=ax cD fs) rfl rfl rfl rfl (by simp [bD,aA]) hR jn ap71 rfl rfl (m:=1) (news:=eN ⟨jd,jp,⟨am,0,0⟩⟩) (fun i hi=>aa (vs:=eN ⟨jd,jp,⟨am,0,0⟩⟩) (.head _) (by rw [Nat.zero_add]; exact List.getElem?_eq_getElem hi)) rfl Zx (by omega) fun R' hR'=>?_
 refine Rn [11,4] ?_
 refine aG (cs:=[au none fs.length]) (off:=0) (e:=122) (l2:=aA 71 R'++L) ((Bk p55 (eN ⟨jd,jp,⟨am,0,0⟩⟩) 71)::l1) rfl rfl rfl (by simp) qw rfl (by show 0+1≤1; decide) ?_
 refine Rn [2,5,5] ?_
 have hR2:ag 5 R' (fs++[(⟨jd,jp,⟨am,0,0⟩⟩:FG)]).length (ax cD (fs++[(⟨jd,jp,⟨am,0,0⟩⟩:FG)])):=by rw [List.length_append,ky,nD]; exact hR'
 obtain ⟨b2,cs2,c2,rfl⟩:=bN bF (by decide) hR2 (k:=fs.length) (by simp)
 refine dY (own':=(Bk p55 (eN ⟨jd,jp,⟨am,0,0⟩⟩) 71)::(l1++(bD pG (some (b2,cs2,c2)) (fs.length+1)++L))) (ro':=ro) (fun w1 h=>h.to (by simp [bD]; rfl)) ?_
 refine Rn [18,0,11,4,7,31] ?_
 refine Xv rfl (dH (c:=(fs.length:Nat)) rfl rfl (by omega) (by omega)) ?_
 refine Rn [1,2,14] ?_
 refine aO (σ:=Unit) (fun z=>True) (fun z=>[(0,Pt pG),(9,Vi (fs.length:Nat))]) (fun z=>(Bk p55 (eN ⟨jd,jp,⟨am,0,0⟩⟩) 71)::(l1++(bD pG (some (b2,cs2,c2)) (fs.length+1)++L))) (fun z=>ro) (fun z=>0) (()) (trivial) (aC Zu (fun _ h=>h)) ?_
 rintro _ _
 refine Zs (Zs ?_)
 refine bc 22 ?_
 refine Rn [0,60] fun b66 hb66=>?_
 obtain rfl:b66=false:=hb66.trans (decide_eq_false (by omega))
 refine Rn [0,33,33,33,33,33,33,33,33,33,33,33,33,33,33,33,33,33,33] ?_
 refine Xb rfl (lz (v:=false) rfl rfl) fun b86 hb86=>?_
 obtain rfl:b86=false:=hb86
 refine Rn [2,10] (Aw (fun hc86=>?_) fun hc86=>?_)
 ·cases hc86
 refine Rn [34,19,19,35,17,3,1,2,6] ?_
 exact aw rfl rfl (fun w' hm'=>⟨rfl,some (b2,cs2,c2),hR2,(hm'.less Ls (fun _ h=>h)).to (by rw [List.length_append]; rfl)⟩)
theorem r_Money (n:Int) (w:World) (hn:aj n) :
  Calls Tryz.prog 75 #[Vi n] w fun e w'=>∃ z:Nat×ak,e=.returned (Pt z.1)∧ag 5 z.2 3 (ax cD [(⟨1,0,⟨20000,0,0⟩⟩:FG),⟨2,1,⟨9000,0,0⟩⟩,⟨3,1,⟨(n%5000),0,0⟩⟩])∧Mem w' ([]++(bD z.1 z.2 3++[])) [(w,fun _=>True)]:=by
 refine enter Tryz.func75 rfl Tryz.ntmps75 rfl ?_
 refine Rn [3,1,9] ?_
 refine fq (τ:=Nat) (fun p=>Pt p) (fun _=>True) (fun p=>[]++(bD p none 0++[])) rfl rfl rfl Tryz.func21 Zk rfl (fun w1 hw1=>(r_New w1).mono fun e w2 ⟨p,h1,h2⟩=>⟨p,h1,h2.b,trivial,hw1.join2 h2⟩) fun pG _=>?_
 refine Rn [1,9,0] ?_
 refine aI (τ:=ak) (v:=Vi 0) (fun R=>ag 5 R 1 (ax cD [(⟨1,0,⟨20000,0,0⟩⟩:FG)])) (fun R=>[]++(bD pG R 1++[])) rfl rfl Tryz.func133 Zk rfl (fun w1 hw1=>r_Add0 (fs:=[]) (l1:=[]) (L:=[]) (jd:=1) (jp:=0) (am:=20000) (by decide) (by decide) (by decide) (fun f hf=>by cases hf) rfl rfl bG hw1) fun R1 hR1=>?_
 refine Rn [9,0] ?_
 obtain ⟨b1,cs1,c1,rfl⟩:=bN bF (by decide) hR1 (k:=0) (by decide)
 refine aI (τ:=ak) (v:=Vi 0) (fun R=>ag 5 R 2 (ax cD [(⟨1,0,⟨20000,0,0⟩⟩:FG),⟨2,1,⟨9000,0,0⟩⟩])) (fun R=>[]++(bD pG R 2++[])) rfl rfl Tryz.func133 Zk rfl (fun w1 hw1=>r_AddS (fs:=[(⟨1,0,⟨20000,0,0⟩⟩:FG)]) (l1:=[]) (L:=[]) (jd:=2) (jp:=1) (am:=9000) (jx:=0) (by decide) (by decide) (by decide) (fun f hf=>by rw [List.mem_singleton.1 hf]; decide) (by decide) (by decide) (by decide) (fun _=>(by decide:(1:Int) < 2)) hR1 hw1) fun R2 hR2=>?_
 refine Rn [9,0,0] ?_
 obtain ⟨m,hm0⟩:∃ m,n%5000=m:=⟨_,rfl⟩
 have hmb:=cN n (m:=5000) (by decide)
 rw [hm0] at hmb ⊢
 refine Xc (v:=Vi m) rfl Tryz.func43 rfl (fun w1 hw1=>by have h:=ix n 5000 w1 hn (by decide); rw [hm0] at h; exact h) ?_
 obtain ⟨b2,cs2,c2,rfl⟩:=bN bF (by decide) hR2 (k:=0) (by decide)
 refine aI (τ:=ak) (v:=Vi 0) (fun R=>ag 5 R 3 (ax cD [(⟨1,0,⟨20000,0,0⟩⟩:FG),⟨2,1,⟨9000,0,0⟩⟩,⟨3,1,⟨m,0,0⟩⟩])) (fun R=>[]++(bD pG R 3++[])) rfl rfl Tryz.func133 Zk rfl (fun w1 hw1=>r_AddS (fs:=[(⟨1,0,⟨20000,0,0⟩⟩:FG),⟨2,1,⟨9000,0,0⟩⟩]) (l1:=[]) (L:=[]) (jd:=3) (jp:=1) (am:=m) (jx:=0) (by decide) (by omega) (by decide) (fun f hf=>by simp only [List.mem_cons,List.not_mem_nil,or_false] at hf; rcases hf with rfl | rfl <;> decide) (by decide) (by decide) (by decide) (fun _=>(by decide:(2:Int) < 3)) hR2 hw1) fun R3 hR3=>?_
 refine Rn [9,0,1,2,6] ?_
 exact aw rfl rfl (fun w' hm=>⟨(pG,R3),rfl,hR3,hm⟩)
theorem r_Open0 {fs:List FG} (s:ByteArray) (w:World) (hs:s.size≤2000000) (hri:zv s=(er fs,0)) (hv:opF fs) :
  Calls Tryz.prog 92 #[.string s] w fun e w'=>∃ z:Nat×ak,e=.returned (.tuple #[Pt z.1,Vi 0])∧ag 5 z.2 fs.length (ax cD fs)∧Mem w' ([]++(bD z.1 z.2 fs.length++[])) [(w,fun _=>True)]:=by
 have hvl:=hv.len
 refine enter Tryz.func92 rfl Tryz.ntmps92 rfl ?_
 refine Rn [3,1,1,9,0] ?_
 refine Xd (R:=fun v wa wb=>∃ A1 c1,v=.tuple #[.slice A1 (er fs).length c1,Vi 0]∧ab i8 (fun b=>wa.heap.size≤b) wb (.slice A1 (er fs).length c1) (er fs)) rfl Tryz.func42 rfl (fun w1 hw1=>(c_rRI s w1 hs).mono fun e w2 ⟨v,h1,h2,h3⟩=>by rw [hri] at h1 h3; obtain ⟨A1,c1,rfl,_⟩:=id h3; exact ⟨_,h1,h2,A1,c1,rfl,h3⟩) fun v15 wa15 wb15 hm15 hl15 hR15=>?_
 obtain ⟨A15,c15,rfl,hr15⟩:=hR15
 have hel:=fS fs
 rw [hel] at hr15 ⊢
 refine Rn [0,20,20,1,1,2,5,3,0,37] fun b19 hb19=>?_
 obtain rfl:b19=false:=hb19.trans (decide_eq_false (fun q=>q rfl))
 refine Rn [0,29,87] ?_
 have e23:((fs.length*5:Nat):Int).tmod 5=0:=by rw [Int.tmod_eq_emod_of_nonneg (by omega)]; omega
 refine cz rfl rfl rfl rfl rfl (jL rfl rfl (by decide)) ?_
 refine Rn [79] fun b24 hb24=>?_
 obtain rfl:b24=false:=hb24.trans (decide_eq_false (fun q=>q e23))
 refine Rn [25] fun b25 hb25=>?_
 obtain rfl:b25=false:=hb25
 refine Rn [0,29,87] ?_
 refine cz rfl rfl rfl rfl rfl (v:=Vi (fs.length:Nat)) (iq rfl rfl (by decide) (by rw [Int.tdiv_eq_ediv_of_nonneg (by omega)]; omega) (by omega)) ?_
 refine Rn [68] fun b30 hb30=>?_
 obtain rfl:b30=false:=hb30.trans (decide_eq_false (by have:=hv.len; omega))
 refine Rn [25] fun b31 hb31=>?_
 obtain rfl:b31=false:=hb31
 refine Rn [2,10] (Aw (fun hc31=>?_) fun hc31=>?_)
 ·cases hc31
 refine Rn [23] ?_
 refine Xv (v:=Value.agg [Value.slice none 0 0].toArray) rfl (aH (cs:=[Value.slice none 0 0]) (places:=[(0,1)]) u122 wM Zk rfl rfl) ?_
 refine Rn [36,1,2,5,3,1,2,14] fun p33=>?_
 refine aO (σ:=Nat×ak) (fun z=>z.1≤fs.length∧ag 5 z.2 z.1 (ax cD (fs.take z.1))) (fun z=>[(4,Value.slice A15 (fs.length*5) c15),(6,Pt p33),(7,Vi ((z.1*5:Nat):Int))]) (fun z=>bD p33 z.2 z.1) (fun z=>[(wb15,a7 []),(w,fun _=>True)]) (fun z=>fs.length - z.1) ((0,none)) (⟨Nat.zero_le _,bG⟩) (aC Zu (fun _ h=>h)) ?_
 rintro ⟨k,R⟩ ⟨hkL,hR⟩
 refine Rn [144] ?_
 dsimp only at hkL hR
 refine Rn [5,3,0,0,31,24,2,12] fun b37 hb37=>Aw (fun hc37=>?_) fun hc37=>?_
 ·have hk:k < fs.length:=by omega
  obtain ⟨b0,o0,hA0,hD0,hcell⟩:=ye hr15 (by omega)
  have hC:∀ j n,(xP fs[k])[j]?=some n→wb15.cell? ⟨b0,o0+(k*5+j),none⟩=some (Vi n):=fun j n hj=>(hcell _ _ (yd hk hj)).1
  have hgk:=hv.fg _ (List.getElem_mem hk)
  have hbk:=hv.bd _ (List.getElem_mem hk)
  refine Rn [16,5,14,5] ?_
  refine ew 26 [(true,0),(true,1),(true,2),(true,3),(true,4),(true,5),(true,6),(true,7),(true,8),(true,9),(true,10),(true,11),(true,12),(true,13),(true,14),(true,15),(true,16),(true,17),(true,18),(true,19),(true,20),(true,21),(true,22),(true,23),(true,24),(false,25)] Zk Zk ?_
  refine Rn [0,0] ?_
  refine Xv rfl (ae ij cT (congrArg (fun A=>some (Value.slice A (fs.length*5) c15)) hA0) rfl (by omega) rfl) (Xl rfl u3 rfl (an (.head _) (fun q hq=>by cases hq) (by rw [Nat.mul_one]; exact hC 0 _ rfl)) ?_)
  refine Rn [0,0] ?_
  refine Xv rfl (bg (c:=((k*5+1:Nat):Int)) rfl rfl (by omega) (by omega)) (Xv rfl (ae ij cT (congrArg (fun A=>some (Value.slice A (fs.length*5) c15)) hA0) rfl (by omega) rfl) (Xl rfl u3 rfl (an (.head _) (fun q hq=>by cases hq) (by rw [Nat.mul_one]; exact hC 1 _ rfl)) ?_))
  refine Rn [0,0] ?_
  refine Xv rfl (bg (c:=((k*5+2:Nat):Int)) rfl rfl (by omega) (by omega)) (Xv rfl (ae ij cT (congrArg (fun A=>some (Value.slice A (fs.length*5) c15)) hA0) rfl (by omega) rfl) (Xl rfl u3 rfl (an (.head _) (fun q hq=>by cases hq) (by rw [Nat.mul_one]; exact hC 2 _ rfl)) ?_))
  refine Rn [0,0] ?_
  refine Xv rfl (bg (c:=((k*5+3:Nat):Int)) rfl rfl (by omega) (by omega)) (Xv rfl (ae ij cT (congrArg (fun A=>some (Value.slice A (fs.length*5) c15)) hA0) rfl (by omega) rfl) (Xl rfl u3 rfl (an (.head _) (fun q hq=>by cases hq) (by rw [Nat.mul_one]; exact hC 3 _ rfl)) ?_))
  refine Rn [0,0] ?_
  refine Xv rfl (bg (c:=((k*5+4:Nat):Int)) rfl rfl (by omega) (by omega)) (Xv rfl (ae ij cT (congrArg (fun A=>some (Value.slice A (fs.length*5) c15)) hA0) rfl (by omega) rfl) (Xl rfl u3 rfl (an (.head _) (fun q hq=>by cases hq) (by rw [Nat.mul_one]; exact hC 4 _ rfl)) (Xv (v:=Value.agg (eN fs[k]).toArray) rfl (aH (cs:=eN fs[k]) (places:=[(0,1),(1,1),(2,1),(3,1),(4,1)]) wT zK Zk rfl rfl) ?_)))
  refine Rn [28,32,9,39] fun p8=>?_
  refine Xh rfl Tryz.func142 rfl (fun w1 hw1=>r_right fs[k] w1 hgk) fun b66 hb66=>?_
  obtain rfl:b66=true:=hb66
  refine Rn [1,9,0,11,152,7,31,1,2,5] ?_
  refine cO (σ:=Unit) (fun z12=>True) (fun z12=>[(4,Value.slice A15 (fs.length*5) c15),(6,Pt p33),(7,Vi ((k*5:Nat):Int)),(8,Pt p8),(99,Value.bool false)]) (fun z12=>(Bk p8 (eN fs[k]) 71)::bD p33 R k) (fun z12=>[(wb15,a7 []),(w,fun _=>True)]) ?_ ?_
  ·have hall:=mL (by decide) hv.bd k
   have hkk:(k:Int)≤10:=by have:=hv.len; omega
   have hlk:(fs.take k).length=k:=by rw [List.length_take]; omega
   rcases Nat.eq_zero_or_pos k with hk0 | hkp
   ·refine bc 28 ?_
    refine Rn [0,43] fun b73 hb73=>?_
    obtain rfl:b73=false:=hb73
    refine Rn [0,29,68] fun b76 hb76=>?_
    obtain rfl:b76=false:=hb76.trans (decide_eq_false (by omega))
    refine Rn [29,33,33,33,33,33,33,33,33,33,33,33,33] ?_
    refine db rfl rfl rfl rfl rfl (lz (v:=false) rfl rfl) fun b90 hb90=>?_
    obtain rfl:b90=false:=hb90
    refine Rn [25] fun b91 hb91=>?_
    obtain rfl:b91=false:=hb91
    refine Rn [0,154,50,29] ?_
    refine dc (v:=Vi (fH (fs.take k))) rfl rfl rfl rfl rfl Tryz.func143 Zk rfl (fun w1 hw1=>yf (fs:=fs.take k) w1 (by rw [hlk]; exact aa (vs:=[au R k]) (.tail _ (.head _)) rfl w1 hw1) (hw1.rowIn (fun p hp=>.tail _ (.tail _ hp))) (by rw [hlk]; exact hR) (by omega) (fun f hf=>by have:=hv.bd f (List.mem_of_mem_take hf); omega)) ?_
    refine Rn [86,68] fun b98 hb98=>?_
    obtain rfl:b98=false:=hb98.trans (decide_eq_false (by omega))
    refine Rn [25] fun b99 hb99=>?_
    obtain rfl:b99=false:=hb99
    refine Ze ?_
    exact cv () trivial Zu (fun _ h=>h)
   obtain ⟨b2,cs2,c2,rfl⟩:=bN bF (by decide) hR (k:=k - 1) (by rw [List.length_take]; omega)
   have hlt:=sV hv.srt (i:=k - 1) (j:=k) (by omega) hk (by omega)
   refine bc 28 ?_
   refine Rn [0,43] fun b73 hb73=>?_
   obtain rfl:b73=false:=hb73
   refine Rn [0,29,68] fun b76 hb76=>?_
   obtain rfl:b76=true:=hb76.trans (decide_eq_true (by omega))
   refine Rn [29,154,50,29,82,154,50,29] ?_
   refine cz rfl rfl rfl rfl rfl (dH (c:=((k - 1:Nat):Int)) rfl rfl (by omega) (by omega)) ?_
   refine Rn [89,154] ?_
   refine cz rfl rfl rfl rfl rfl (aW u3 rfl rfl (aa (vs:=cs2) (.tail _ (.tail _ (.head _))) (cg (l:=fs.take k) bF hR (k:=k - 1) (by rw [List.length_take]; omega) (j:=0) (u:=Vi fs[k - 1].id) (by rw [List.getElem_take]; rfl)))) ?_
   refine Rn [101] fun b89 hb89=>?_
   obtain rfl:b89=false:=hb89.trans (decide_eq_false (by omega))
   refine Rn [97] fun b90 hb90=>?_
   obtain rfl:b90=false:=hb90
   refine Rn [25] fun b91 hb91=>?_
   obtain rfl:b91=false:=hb91
   refine Rn [0,154,50,29] ?_
   refine dc (v:=Vi (fH (fs.take k))) rfl rfl rfl rfl rfl Tryz.func143 Zk rfl (fun w1 hw1=>yf (fs:=fs.take k) w1 (by rw [hlk]; exact aa (vs:=[au (some (b2,cs2,c2)) k]) (.tail _ (.head _)) rfl w1 hw1) (hw1.rowIn (fun p hp=>.tail _ (.tail _ hp))) (by rw [hlk]; exact hR) (by omega) (fun f hf=>by have:=hv.bd f (List.mem_of_mem_take hf); omega)) ?_
   refine Rn [86,68] fun b98 hb98=>?_
   obtain rfl:b98=false:=hb98.trans (decide_eq_false (by omega))
   refine Rn [25] fun b99 hb99=>?_
   obtain rfl:b99=false:=hb99
   refine Ze ?_
   exact cv () trivial Zu (fun _ h=>h)
  rintro _ _
  refine rq rfl (fun hc99=>?_) fun hc99=>?_
  ·cases hc99
  refine Rn [16] ?_
  refine cL ([(Bk p8 (eN fs[k]) 71)]) 11 (.flt 0 (.flt 1 (.flt 2 (.flt 3 (.flt 5 (.gr 4 (.gr 6 (.gr 7 (.flt 8 (.flt 9 (.gr 10 .done .nil))) .nil) .nil) (.gr 6 (.gr 4 (.gr 7 (.flt 8 (.flt 9 (.gr 10 .done .nil))) .nil) .nil) .nil))))))) (List.singleton_sublist.2 (by simp)) Zk Zk ?_
  refine Rn [44,44,65,155,84] ?_
  refine j_gr ?_ ?_
  ·refine Rn [51,13] ?_
   refine dK (List.singleton_sublist.2 (by simp)) ?_
   refine Rn [42] ?_
   refine ac (cs:=eN fs[k]) rfl rfl rfl jn mo zK rfl rfl rfl ?_
   intro p106
   refine Ze ?_
   refine dK (List.singleton_sublist.2 (by simp)) ?_
   refine Rn [42] ?_
   refine be (e:=71) [(Bk p106 (eN fs[k]) 71),(Bk p8 (eN fs[k]) 71),(Bk p33 [au R k] 122)] (l2:=[]) R (len:=k) (xs:=ax cD (fs.take k)) rfl rfl rfl rfl (by simp [bD]) hR jn ap71 rfl rfl (m:=1) (news:=eN fs[k]) (fun i hi=>aa (vs:=eN fs[k]) (.head _) (by rw [Nat.zero_add]; exact List.getElem?_eq_getElem hi)) rfl Zx (by omega) fun R' hR'=>?_
   refine Ze ?_
   refine dK (List.singleton_sublist.2 (by simp)) ?_
   refine Rn [65,155,42] ?_
   refine aG (cs:=[au R k]) (off:=0) (e:=122) (l2:=aA 71 R'++[]) [(Bk p106 (eN fs[k]) 71),(Bk p8 (eN fs[k]) 71)] rfl rfl rfl rfl qw rfl (by show 0+1≤1; decide) ?_
   refine Ze ?_
   refine dK (List.singleton_sublist.2 (by simp)) ?_
   refine Rn [56,13,27,17,18,0,26,1,13] ?_
   have hR2:ag 5 R' (k+1) (ax cD (fs.take (k+1))):=by rw [List.take_succ_eq_append_getElem hk,ky,nD]; exact hR'
   exact aJ (k+1,R') ⟨hk,hR2⟩ (by simp only; omega) (by dsimp only; rw [show (k+1)*5=k*5+5 by omega]; exact Zu) (fun w1 h=>(h.less (Ls.trans Ls) (fun _ h=>h)).to (by simp [bD]; rfl))
  refine Rn [42] ?_
  refine ac (cs:=eN fs[k]) rfl rfl rfl jn mo zK rfl rfl rfl ?_
  intro p106
  refine Ze ?_
  refine dK (List.singleton_sublist.2 (by simp)) ?_
  refine Rn [42,51,13] ?_
  refine dK (List.singleton_sublist.2 (by simp)) ?_
  refine Rn [42] ?_
  refine be (e:=71) [(Bk p106 (eN fs[k]) 71),(Bk p8 (eN fs[k]) 71),(Bk p33 [au R k] 122)] (l2:=[]) R (len:=k) (xs:=ax cD (fs.take k)) rfl rfl rfl rfl (by simp [bD]) hR jn ap71 rfl rfl (m:=1) (news:=eN fs[k]) (fun i hi=>aa (vs:=eN fs[k]) (.head _) (by rw [Nat.zero_add]; exact List.getElem?_eq_getElem hi)) rfl Zx (by omega) fun R' hR'=>?_
  refine Ze ?_
  refine dK (List.singleton_sublist.2 (by simp)) ?_
  refine Rn [65,155,42] ?_
  refine aG (cs:=[au R k]) (off:=0) (e:=122) (l2:=aA 71 R'++[]) [(Bk p106 (eN fs[k]) 71),(Bk p8 (eN fs[k]) 71)] rfl rfl rfl rfl qw rfl (by show 0+1≤1; decide) ?_
  refine Ze ?_
  refine dK (List.singleton_sublist.2 (by simp)) ?_
  refine Rn [56,13,27,17,18,0,26,1,13] ?_
  have hR2:ag 5 R' (k+1) (ax cD (fs.take (k+1))):=by rw [List.take_succ_eq_append_getElem hk,ky,nD]; exact hR'
  exact aJ (k+1,R') ⟨hk,hR2⟩ (by simp only; omega) (by dsimp only; rw [show (k+1)*5=k*5+5 by omega]; exact Zu) (fun w1 h=>(h.less (Ls.trans Ls) (fun _ h=>h)).to (by simp [bD]; rfl))
 obtain rfl:k=fs.length:=by omega
 rw [List.take_length] at hR
 clear hkL
 refine Rn [34,19,19,35,17,5,3,1,2,14] ?_
 refine aO (σ:=Nat) (fun k=>k≤fs.length) (fun k=>[(6,Pt p33),(11,Vi (k:Nat))]) (fun k=>bD p33 R fs.length) (fun k=>[(wb15,a7 []),(w,fun _=>True)]) (fun k=>fs.length - k) (0) ((Nat.zero_le _)) (aC Zu (fun _ h=>h)) ?_
 rintro k hkL
 refine Rn [5,3,0,0,11,152,7,31,24,2,10] fun b116 hb116=>Aw (fun hc116=>?_) fun hc116=>?_
 ·simp only [hb116,Qz,ne_eq] at hc116
  have hk:k < fs.length:=by omega
  refine Rn [16,5,14,3,0,0] ?_
  refine Xh rfl Tryz.func144 rfl (fun w1 hw1=>r_ends w1 (aa (vs:=[au R fs.length]) (.head _) rfl w1 hw1) (hw1.rowIn (fun p hp=>.tail _ hp)) hR hv.ends hk) fun b121 hb121=>?_
  obtain rfl:b121=true:=hb121
  refine Rn [1,9,0,43] fun b123 hb123=>?_
  obtain rfl:b123=false:=hb123
  refine Rn [2,10] (Aw (fun hc123=>?_) fun hc123=>?_)
  ·cases hc123
  refine Rn [45,27,17,18,0,26,1,13] ?_
  exact aJ (k+1) hk (by show fs.length - (k+1) < fs.length - k; omega) Zu (fun _ h=>h)
 refine Rn [34,19,19,35,17,3,0,1,1,2,6] ?_
 exact s7 rfl rfl rfl (fun w' hm=>⟨(p33,R),rfl,hR,(hm.less (.refl _) (fun _ h=>.tail _ h)).to (by simp)⟩)
theorem r_OpenF {fs:List FG} (w:World) (hv:opF fs):Calls Tryz.prog 92 #[.string ⟨(cF (er fs)).toArray⟩] w fun e w'=>∃ z:Nat×ak,e=.returned (.tuple #[Pt z.1,Vi 0])∧ag 5 z.2 fs.length (ax cD fs)∧Mem w' ([]++(bD z.1 z.2 fs.length++[])) [(w,fun _=>True)]:=by
 have h1:=hv.len
 have h2:=fS fs
 exact r_Open0 _ w (pw (by omega) (ku hv.fg)) (uT (by omega) (ku hv.fg)) hv
open Go.RowKit Go.PK
def dG (pR pG:Nat) (tr:Int) (RE:ak) (n:Nat):List (Nat×Obj):=(Bk pR [Pt pG,Vi tr,au RE n] 91)::aA 144 RE
theorem j6 {k j n:Nat} {b c:Nat} {cs:List Value} {es:List EN} (h:ag 10 (some (b,cs,c)) n (ax du es)) (hk:k < es.length) (o:EN) {m:Nat} {vs:List Value} (hv:vs.length=m) (hj:j+m≤10)
  (he:du o=(du es[k]).take j++vs++(du es[k]).drop (j+m)):ag 10 (some (b,cs.take (0+k*10+j)++vs++cs.drop (0+k*10+j+m),c)) n (ax du (es.set k o)):=by
 have h:=nF bf h hk o hv hj he
 rw [show k*10+j=0+k*10+j by omega] at h
 exact h
theorem r_Rec0 {w:World} {L:List (Nat×Obj)} {ro:List av} {pR pG:Nat} {tr:Int} {RF:ak} {s:SG} (hF:ag 5 RF s.fs.length (ax cD s.fs)) (hok:SGok s) (htr:s.tol=min (max tr 0) 1000000) {RE:ak} (hE:ag 10 RE s.L.length (ax du s.L)) (hm:Mem w (dG pR pG tr RE s.L.length++(bD pG RF s.fs.length++L)) ro) {jd:Int} (hix:sU s.L jd=-1) (hl:cq s.L jd=none) (n:Int) (hn:aj n) :
  Calls Tryz.prog 79 #[Pt pR,Vi jd,Vi n] w fun e w'=>e=.returned (Vi (ar s jd n).1)∧∃ q:ak×ak,(ag 10 q.1 (ar s jd n).2.L.length (ax du (ar s jd n).2.L)∧ag 5 q.2 (ar s jd n).2.fs.length (ax cD (ar s jd n).2.fs))∧Mem w' (dG pR pG tr q.1 (ar s jd n).2.L.length++(bD pG q.2 (ar s jd n).2.fs.length++L)) ro:=by
 refine ay hm Tryz.func79 rfl Tryz.ntmps79 rfl ?_
 refine Rn [3,1,9,0,0] ?_
 refine Xc (v:=Vi (-1)) rfl Tryz.func82 rfl (fun w1 hw1=>by
  have h:=dU (id:=jd) w1 (aa (vs:=[Pt pG,Vi tr,au RE s.L.length]) (.head _) rfl w1 hw1) (hw1.rowIn (fun p hp=>(.tail _ (List.mem_append_left _ hp)))) hE
  rw [hix] at h; exact h) ?_
 refine Rn [1,2,5,3,0,24,2,12] fun b13 hb13=>Aw (fun hc13=>?_) fun hc13=>?_
 ·refine Rn [3,1,2,6,8] ?_
  refine aw rfl rfl (fun w' hm'=>?_)
  rw [show (ar s jd n)=(32,s) from by unfold ar; rw [hl]]
  exact ⟨rfl,(RE,RF),⟨hE,hF⟩,hm'.less (.refl _) (fun _ h=>h)⟩
 omega
theorem r_Rec1 {w:World} {L:List (Nat×Obj)} {ro:List av} {pR pG:Nat} {tr:Int} {RF:ak} {s:SG} (hF:ag 5 RF s.fs.length (ax cD s.fs)) (hok:SGok s) (htr:s.tol=min (max tr 0) 1000000) {b c:Nat} {cs:List Value} (hE:ag 10 (some (b,cs,c)) s.L.length (ax du s.L)) (hm:Mem w ((Bk pR [Pt pG,Vi tr,au (some (b,cs,c)) s.L.length] 91)::(Bk b cs 144)::(bD pG RF s.fs.length++L)) ro) {x:PK.Ord} {first:Int} {k:Nat} (hk:k < s.L.length) (he:s.L[k]=(x,first)) {jd:Int} (hix:sU s.L jd=k) (hl:cq s.L jd=some (x,first)) (hset:∀ y:EN,y.1.id=jd→dl s.L y=s.L.set k y) (n:Int) (hn:aj n) :
  Calls Tryz.prog 79 #[Pt pR,Vi jd,Vi n] w fun e w'=>e=.returned (Vi (ar s jd n).1)∧∃ q:ak×ak,(ag 10 q.1 (ar s jd n).2.L.length (ax du (ar s jd n).2.L)∧ag 5 q.2 (ar s jd n).2.fs.length (ax cD (ar s jd n).2.fs))∧Mem w' (dG pR pG tr q.1 (ar s jd n).2.L.length++(bD pG q.2 (ar s jd n).2.fs.length++L)) ro:=by
 obtain ⟨hx,hfi1,hfi2⟩:=hok.at hl
 have hxid:x.id=jd:=(bL hl).2
 have hmx:=cV hE
 unfold maxLen at hmx
 have hmf:=cV hF
 unfold maxLen at hmf
 obtain ⟨r1,r2,r3,r4,r5⟩:=id hE
 dsimp only at r2 r3 r4
 have htol:=hok.tol
 obtain ⟨⟨o1,o2⟩,⟨o3,o4⟩,⟨o5,o6⟩,⟨o7,o8⟩,⟨o9,o10⟩,⟨o11,o12⟩,⟨o13,o14⟩,⟨o15,o16⟩,o17,o18⟩:=show dm x from hx
 obtain ⟨n1,n2⟩:=id hn
 refine ay hm Tryz.func79 rfl Tryz.ntmps79 rfl ?_
 refine Rn [3,1,9,0,0] ?_
 refine Xc (v:=Vi ((k:Nat):Int)) rfl Tryz.func82 rfl (fun w1 hw1=>by
  have h:=dU (id:=jd) w1 (aa (vs:=[Pt pG,Vi tr,au (some (b,cs,c)) s.L.length]) (.head _) rfl w1 hw1) (hw1.rowIn (fun p hp=>by rw [show p=_ from List.mem_singleton.1 hp]; exact (.tail _ (.head _)))) hE
  rw [hix] at h; exact h) ?_
 refine Rn [1,2,5,3,0,24,2,12] fun b13 hb13=>Aw (fun hc13=>?_) fun hc13=>?_
 ·omega
 refine Rn [23,0,11,152,7,0,46,152] ?_
 refine Xv rfl (bj (vs:=x.cells) f4 rfl cm rfl (fun i hi=>aa (vs:=cs) (.tail _ (.head _)) (cg bf hE hk (j:=i) (by rw [he,show du (x,first)=x.cells++[Vi first] from rfl,List.getElem?_append_left hi]; exact List.getElem?_eq_getElem hi)))) ?_
 refine Rn [28,32,2,5,3,152,7,24,2,12] fun p8 b24 hb24=>Aw (fun hc24=>?_) fun hc24=>?_
 ·refine Rn [3,1,2,6,8] ?_
  refine aw rfl rfl (fun w' hm'=>?_)
  rw [show (ar s jd n)=(50,s) from by unfold ar; rw [hl]; dsimp only; rw [if_pos (by omega)]]
  exact ⟨rfl,((some (b,cs,c)),RF),⟨hE,hF⟩,hm'.less Ls (fun _ h=>h)⟩
 refine Rn [16,5,3,0,24,0,21,153,40,153,40,80,63,25,2,12] fun b26 hb26 b34 hb34 b35 hb35=>Aw (fun hc35=>?_) fun hc35=>?_
 ·refine Rn [3,1,2,6,8] ?_
  refine aw rfl rfl (fun w' hm'=>?_)
  rw [show (ar s jd n)=(1,s) from by unfold ar; rw [hl]; dsimp only; rw [if_neg (by omega),if_pos (by omega)]]
  exact ⟨rfl,((some (b,cs,c)),RF),⟨hE,hF⟩,hm'.less Ls (fun _ h=>h)⟩
 refine Rn [16,5] ?_
 refine bc 12 ?_
 refine Rn [0,11,152,7,0,152,7,0,26,46,152,152] ?_
 refine aG (cs:=cs) (off:=0+k*10+8) (e:=144) (l2:=bD pG RF s.fs.length++L) [(Bk p8 x.cells 25),(Bk pR [Pt pG,Vi tr,au (some (b,cs,c)) s.L.length] 91)] rfl rfl rfl rfl cT rfl (by omega) ?_
 refine Rn [9,1,2,6] ?_
 refine aw rfl rfl (fun w' hm'=>?_)
 rw [show (ar s jd n)=(0,⟨s.fs,s.tol,s.L.set k ({ x with st:=x.st+n },first)⟩) from by unfold ar; rw [hl]; dsimp only; rw [if_neg (by omega),if_neg (by omega)]; rw [hset ({ x with st:=x.st+n },first) hxid]]
 exact ⟨rfl,(some (b,(cs.take (0+k*10+8)++(Vi (x.st+n)).cells.toList++cs.drop (0+k*10+8+1)),c),RF),⟨by rw [List.length_set]; exact (j6 hE hk ({ x with st:=x.st+n },first) (j:=8) (vs:=(Vi (x.st+n)).cells.toList) rfl (by decide) (by rw [he]; rfl)),hF⟩,(hm'.less Ls (fun _ h=>h)).to (by rw [List.length_set]; rfl)⟩
theorem r_Rec {w:World} {L:List (Nat×Obj)} {ro:List av} {pR pG:Nat} {tr:Int} {RF:ak} {s:SG} (hF:ag 5 RF s.fs.length (ax cD s.fs)) (hok:SGok s) (htr:s.tol=min (max tr 0) 1000000) {RE:ak} (hE:ag 10 RE s.L.length (ax du s.L)) (hm:Mem w (dG pR pG tr RE s.L.length++(bD pG RF s.fs.length++L)) ro) (jd:Int) (n:Int) (hn:aj n):Calls Tryz.prog 79 #[Pt pR,Vi jd,Vi n] w fun e w'=>e=.returned (Vi (ar s jd n).1)∧∃ q:ak×ak,(ag 10 q.1 (ar s jd n).2.L.length (ax du (ar s jd n).2.L)∧ag 5 q.2 (ar s jd n).2.fs.length (ax cD (ar s jd n).2.fs))∧Mem w' (dG pR pG tr q.1 (ar s jd n).2.L.length++(bD pG q.2 (ar s jd n).2.fs.length++L)) ro:=by
 cases hl:cq s.L jd with
 | none=>exact r_Rec0 hF hok htr hE hm (gZ hl) hl n hn
 | some z =>
  obtain ⟨x,first⟩:=z
  obtain ⟨k,hk,h1,h2,_,h4⟩:=gY hl
  obtain ⟨b,cs,c,rfl⟩:=bN bf (by decide) hE hk
  exact r_Rec1 hF hok htr hE hm hk h2 h1 hl h4 n hn
theorem r_Can0 {w:World} {L:List (Nat×Obj)} {ro:List av} {pR pG:Nat} {tr:Int} {RF:ak} {s:SG} (hF:ag 5 RF s.fs.length (ax cD s.fs)) (hok:SGok s) (htr:s.tol=min (max tr 0) 1000000) {RE:ak} (hE:ag 10 RE s.L.length (ax du s.L)) (hm:Mem w (dG pR pG tr RE s.L.length++(bD pG RF s.fs.length++L)) ro) {jd:Int} (hix:sU s.L jd=-1) (hl:cq s.L jd=none) :
  Calls Tryz.prog 80 #[Pt pR,Vi jd] w fun e w'=>e=.returned (Vi (aE s jd).1)∧∃ q:ak×ak,(ag 10 q.1 (aE s jd).2.L.length (ax du (aE s jd).2.L)∧ag 5 q.2 (aE s jd).2.fs.length (ax cD (aE s jd).2.fs))∧Mem w' (dG pR pG tr q.1 (aE s jd).2.L.length++(bD pG q.2 (aE s jd).2.fs.length++L)) ro:=by
 refine ay hm Tryz.func80 rfl Tryz.ntmps80 rfl ?_
 refine Rn [3,1,9,0,0] ?_
 refine Xc (v:=Vi (-1)) rfl Tryz.func82 rfl (fun w1 hw1=>by
  have h:=dU (id:=jd) w1 (aa (vs:=[Pt pG,Vi tr,au RE s.L.length]) (.head _) rfl w1 hw1) (hw1.rowIn (fun p hp=>(.tail _ (List.mem_append_left _ hp)))) hE
  rw [hix] at h; exact h) ?_
 refine Rn [1,2,5,3,0,24,2,12] fun b12 hb12=>Aw (fun hc12=>?_) fun hc12=>?_
 ·refine Rn [3,1,2,6,8] ?_
  refine aw rfl rfl (fun w' hm'=>?_)
  rw [show (aE s jd)=(32,s) from by unfold aE; rw [hl]]
  exact ⟨rfl,(RE,RF),⟨hE,hF⟩,hm'.less (.refl _) (fun _ h=>h)⟩
 omega
theorem r_Can1 {w:World} {L:List (Nat×Obj)} {ro:List av} {pR pG:Nat} {tr:Int} {RF:ak} {s:SG} (hF:ag 5 RF s.fs.length (ax cD s.fs)) (hok:SGok s) (htr:s.tol=min (max tr 0) 1000000) {b c:Nat} {cs:List Value} (hE:ag 10 (some (b,cs,c)) s.L.length (ax du s.L)) (hm:Mem w ((Bk pR [Pt pG,Vi tr,au (some (b,cs,c)) s.L.length] 91)::(Bk b cs 144)::(bD pG RF s.fs.length++L)) ro) {x:PK.Ord} {first:Int} {k:Nat} (hk:k < s.L.length) (he:s.L[k]=(x,first)) {jd:Int} (hix:sU s.L jd=k) (hl:cq s.L jd=some (x,first)) (hset:∀ y:EN,y.1.id=jd→dl s.L y=s.L.set k y) :
  Calls Tryz.prog 80 #[Pt pR,Vi jd] w fun e w'=>e=.returned (Vi (aE s jd).1)∧∃ q:ak×ak,(ag 10 q.1 (aE s jd).2.L.length (ax du (aE s jd).2.L)∧ag 5 q.2 (aE s jd).2.fs.length (ax cD (aE s jd).2.fs))∧Mem w' (dG pR pG tr q.1 (aE s jd).2.L.length++(bD pG q.2 (aE s jd).2.fs.length++L)) ro:=by
 obtain ⟨hx,hfi1,hfi2⟩:=hok.at hl
 have hxid:x.id=jd:=(bL hl).2
 have hmx:=cV hE
 unfold maxLen at hmx
 have hmf:=cV hF
 unfold maxLen at hmf
 obtain ⟨r1,r2,r3,r4,r5⟩:=id hE
 dsimp only at r2 r3 r4
 have htol:=hok.tol
 obtain ⟨⟨o1,o2⟩,⟨o3,o4⟩,⟨o5,o6⟩,⟨o7,o8⟩,⟨o9,o10⟩,⟨o11,o12⟩,⟨o13,o14⟩,⟨o15,o16⟩,o17,o18⟩:=show dm x from hx
 have hres:=vS hx
 refine ay hm Tryz.func80 rfl Tryz.ntmps80 rfl ?_
 refine Rn [3,1,9,0,0] ?_
 refine Xc (v:=Vi ((k:Nat):Int)) rfl Tryz.func82 rfl (fun w1 hw1=>by
  have h:=dU (id:=jd) w1 (aa (vs:=[Pt pG,Vi tr,au (some (b,cs,c)) s.L.length]) (.head _) rfl w1 hw1) (hw1.rowIn (fun p hp=>by rw [show p=_ from List.mem_singleton.1 hp]; exact (.tail _ (.head _)))) hE
  rw [hix] at h; exact h) ?_
 refine Rn [1,2,5,3,0,24,2,12] fun b12 hb12=>Aw (fun hc12=>?_) fun hc12=>?_
 ·omega
 refine Rn [23,0,11,152,7,0,46,152] ?_
 refine Xv rfl (bj (vs:=x.cells) f4 rfl cm rfl (fun i hi=>aa (vs:=cs) (.tail _ (.head _)) (cg bf hE hk (j:=i) (by rw [he,show du (x,first)=x.cells++[Vi first] from rfl,List.getElem?_append_left hi]; exact List.getElem?_eq_getElem hi)))) ?_
 refine Rn [28,32,2,5,3,152,7,24,0,153,40,153,40,63,25,2,12] fun p6 b23 hb23 b29 hb29 b30 hb30=>Aw (fun hc30=>?_) fun hc30=>?_
 ·refine Rn [3,1,2,6,8] ?_
  refine aw rfl rfl (fun w' hm'=>?_)
  rw [show (aE s jd)=(50,s) from by unfold aE; rw [hl]; dsimp only; rw [if_pos (by omega)]]
  exact ⟨rfl,((some (b,cs,c)),RF),⟨hE,hF⟩,hm'.less Ls (fun _ h=>h)⟩
 refine Rn [16,5] ?_
 refine bc 8 ?_
 refine Rn [0,11,152,7,152,7,39] ?_
 refine Xc rfl Tryz.func88 rfl (fun w1 hw1=>r_res x w1 hx) ?_
 refine aI (τ:=ak) (v:=Vi (ap aS s.fs x.fund (aL x)).1) (fun q=>ag 5 q (ap aS s.fs x.fund (aL x)).2.length (ax cD (ap aS s.fs x.fund (aL x)).2)) (fun q=>(Bk p6 x.cells 25)::(Bk pR [Pt pG,Vi tr,au (some (b,cs,c)) s.L.length] 91)::(Bk b cs 144)::(bD pG q (ap aS s.fs x.fund (aL x)).2.length++L)) rfl rfl Tryz.func90 Zk rfl (fun w1 hw1=>r_rel (l1:=[(Bk p6 x.cells 25),(Bk pR [Pt pG,Vi tr,au (some (b,cs,c)) s.L.length] 91),(Bk b cs 144)]) (L:=L) (RF:=RF) (fs:=s.fs) hw1 hF x.fund (aL x) hok.fs) fun q39 hq39=>?_
 refine Rn [1,2,5,3,0,37,2,12] fun b41 hb41=>Aw (fun hc41=>?_) fun hc41=>?_
 ·refine Rn [3,0,1,2,6,8] ?_
  refine aw rfl rfl (fun w' hm'=>?_)
  have hf1:(ap aS s.fs x.fund (aL x)).2=s.fs:=im sr (by simpa using hc41)
  rw [hf1] at hq39 hm'
  rw [show (aE s jd)=((ap aS s.fs x.fund (aL x)).1,s) from by unfold aE; rw [hl]; dsimp only; rw [if_neg (by omega),if_pos (by simpa using hc41)]]
  exact ⟨rfl,((some (b,cs,c)),q39),⟨hE,hq39⟩,hm'.less Ls (fun _ h=>h)⟩
 refine Rn [23,152,7,152] ?_
 refine aG (cs:=x.cells) (off:=6) (e:=25) (l2:=(Bk pR [Pt pG,Vi tr,au (some (b,cs,c)) s.L.length] 91)::(Bk b cs 144)::(bD pG q39 (ap aS s.fs x.fund (aL x)).2.length++L)) [] rfl rfl rfl rfl cT rfl (by show 7≤9; decide) ?_
 refine Rn [9,152] ?_
 refine aG (cs:=PK.Ord.cells { x with prom:=x.paid }) (off:=8) (e:=25) (l2:=(Bk pR [Pt pG,Vi tr,au (some (b,cs,c)) s.L.length] 91)::(Bk b cs 144)::(bD pG q39 (ap aS s.fs x.fund (aL x)).2.length++L)) [] rfl rfl rfl rfl cT rfl (by show 9≤9; decide) ?_
 refine Rn [2,5] ?_
 refine ey _ ((Bk p6 (PK.Ord.cells { x with prom:=x.paid,st:=-1 }) 25)::(Bk pR [Pt pG,Vi tr,au (some (b,cs,c)) s.L.length] 91)::(Bk b cs 144)::(bD pG q39 (ap aS s.fs x.fund (aL x)).2.length++L)) _ ?_
 refine bc 8 ?_
 refine Rn [0,11,152,7,0,39,46,152] ?_
 refine aG (cs:=cs) (off:=0+k*10+0) (e:=144) (l2:=bD pG q39 (ap aS s.fs x.fund (aL x)).2.length++L) [(Bk p6 (PK.Ord.cells { x with prom:=x.paid,st:=-1 }) 25),(Bk pR [Pt pG,Vi tr,au (some (b,cs,c)) s.L.length] 91)] rfl rfl rfl rfl cm rfl (by omega) ?_
 refine Rn [9,1,2,6] ?_
 refine aw rfl rfl (fun w' hm'=>?_)
 rw [show (aE s jd)=(0,⟨(ap aS s.fs x.fund (aL x)).2,s.tol,s.L.set k ({ x with prom:=x.paid,st:=-1 },first)⟩) from by unfold aE; rw [hl]; dsimp only; rw [if_neg (by omega),if_neg (by simpa using hc41)]; rw [hset ({ x with prom:=x.paid,st:=-1 },first) hxid]]
 exact ⟨rfl,(some (b,(cs.take (0+k*10+0)++(Value.agg (PK.Ord.cells { x with prom:=x.paid,st:=-1 }).toArray).cells.toList++cs.drop (0+k*10+0+9)),c),q39),⟨by rw [List.length_set]; exact (j6 hE hk ({ x with prom:=x.paid,st:=-1 },first) (j:=0) (vs:=(Value.agg (PK.Ord.cells { x with prom:=x.paid,st:=-1 }).toArray).cells.toList) rfl (by decide) (by rw [he]; rfl)),hq39⟩,(hm'.less Ls (fun _ h=>h)).to (by rw [List.length_set]; rfl)⟩
theorem r_Can {w:World} {L:List (Nat×Obj)} {ro:List av} {pR pG:Nat} {tr:Int} {RF:ak} {s:SG} (hF:ag 5 RF s.fs.length (ax cD s.fs)) (hok:SGok s) (htr:s.tol=min (max tr 0) 1000000) {RE:ak} (hE:ag 10 RE s.L.length (ax du s.L)) (hm:Mem w (dG pR pG tr RE s.L.length++(bD pG RF s.fs.length++L)) ro) (jd:Int):Calls Tryz.prog 80 #[Pt pR,Vi jd] w fun e w'=>e=.returned (Vi (aE s jd).1)∧∃ q:ak×ak,(ag 10 q.1 (aE s jd).2.L.length (ax du (aE s jd).2.L)∧ag 5 q.2 (aE s jd).2.fs.length (ax cD (aE s jd).2.fs))∧Mem w' (dG pR pG tr q.1 (aE s jd).2.L.length++(bD pG q.2 (aE s jd).2.fs.length++L)) ro:=by
 cases hl:cq s.L jd with
 | none=>exact r_Can0 hF hok htr hE hm (gZ hl) hl 
 | some z =>
  obtain ⟨x,first⟩:=z
  obtain ⟨k,hk,h1,h2,_,h4⟩:=gY hl
  obtain ⟨b,cs,c,rfl⟩:=bN bf (by decide) hE hk
  exact r_Can1 hF hok htr hE hm hk h2 h1 hl h4 
open Go.RowKit Go.PK
attribute [local irreducible] WX
theorem c_chunk (A:Option Addr) (len cp:Nat) (w:World) :
  Calls Tryz.prog 99 #[.slice A len cp,Vi 10] w fun e w'=>∃ b2 b3,e=.returned (.func (.func 148) #[] #[Pt b2,Pt b3])∧Later w w'∧Mem w' [(Bk b3 [Vi 10] 3),(Bk b2 [Value.slice A len cp] 44)] [(w,fun _=>True)]:=by
 refine enter Tryz.func99 rfl Tryz.ntmps99 rfl ?_
 refine Rn [3,36,36,1,2,5,3,7,24,2,10] fun p2 p3 b6 hb6=>Aw (fun hc6=>?_) fun hc6=>?_
 ·simp [hb6] at hc6
 refine Rn [23] ?_
 refine Xv rfl (vc rfl) ?_
 refine Rn [1,2,6] ?_
 exact aw rfl rfl (fun w' hm=>⟨p2,p3,rfl,hm.b,hm⟩)
theorem c_chunk1 {w:World} {ro:List av} {L b2 b3:Nat} {A:Option Addr} {cp:Nat} {xs:List Int} {σ ρ:Type} (X:σ→List (Nat×Obj)) (Y:ρ→List (Nat×Obj)) (I:Nat→σ→Prop) (J:ρ→Prop) (q:Nat) (hxq:xs.length=10*q) (hlc:xs.length≤cp) (hmx:xs.length≤1000000000) (x0:σ) (h0:I 0 x0) (hm:Mem w ((Bk b3 [Vi 10] 3)::(Bk b2 [Value.slice A xs.length cp] 44)::X x0) ro) (hY:∀ (k:Nat) (x:σ) (w1:World),k < q→I k x→Mem w1 ((Bk b3 [Vi 10] 3)::(Bk b2 [Value.slice A xs.length cp] 44)::X x) ro→YieldAt Fence.wide (2 - 1) Tryz.prog L [Value.slice (A.map (fun a=>a.add (10*k*1))) 10 10].toArray w1 fun e w2=>∃ y:σ ⊕ ρ,e=.returned (.bool y.isLeft)∧Sum.elim (I (k+1)) J y∧Mem w2 ((Bk b3 [Vi 10] 3)::(Bk b2 [Value.slice A xs.length cp] 44)::Sum.elim X Y y) ro) :
  Calls Tryz.prog 148 #[.func (.yield L) #[] #[],Pt b2,Pt b3] w fun e w'=>(∃ v,e=.returned v)∧((∃ x,I q x∧Mem w' ((Bk b3 [Vi 10] 3)::(Bk b2 [Value.slice A xs.length cp] 44)::X x) ro)∨∃ z,J z∧Mem w' ((Bk b3 [Vi 10] 3)::(Bk b2 [Value.slice A xs.length cp] 44)::Y z) ro):=by
 refine ay hm Tryz.func148 rfl Tryz.ntmps148 rfl ?_
 refine Rn [3,1,2,14] ?_
 refine aO (σ:=Nat×σ) (fun x=>x.1≤q∧I x.1 x.2) (fun x=>[(0,Value.func (.yield L) #[] #[]),(1,Pt b2),(2,Pt b3),(4,Vi ((10*x.1:Nat):Int))]) (fun x=>(Bk b3 [Vi 10] 3)::(Bk b2 [Value.slice A xs.length cp] 44)::X x.2) (fun x=>ro) (fun x=>q - x.1) ((0,x0)) (⟨Nat.zero_le _,h0⟩) (aC Zu (fun _ h=>h)) ?_
 rintro ⟨k,x⟩ ⟨hkq,hI⟩
 refine Rn [144] ?_
 dsimp only at hkq hI
 refine Rn [5,3,0,7,31,24,2,12] fun b9 hb9=>Aw (fun hc9=>?_) fun hc9=>?_
 ·have hkl:k < q:=by omega
  refine Rn [16,5,14,5] ?_
  refine bc 7 ?_
  refine Rn [7,7,0] ?_
  refine Xv rfl (t6 (i:=10*k) ij cT rfl rfl (by omega) (by omega)) ?_
  refine Rn [31] ?_
  refine Xv (v:=Vi ((10:Nat):Int)) rfl (by rw [show ((10:Nat):Int)=min 10 ((xs.length - 10*k:Nat):Int) by omega]; exact tG rfl rfl) ?_
  refine Rn [1,2,5] ?_
  refine Af 10 2 Zk rfl ?_
  refine Rn [0,7,0,0,0] ?_
  refine Xv rfl (bg (c:=((10*k+10:Nat):Int)) rfl rfl (by omega) (by omega)) ?_
  refine Rn [0,0] ?_
  refine Xv rfl (bg (c:=((10*k+10:Nat):Int)) rfl rfl (by omega) (by omega)) (Xv (v:=Value.slice (A.map (fun a=>a.add (10*k*1))) 10 10) rfl (v_chunk (i:=10*k) (n0:=10) ij cT rfl rfl rfl rfl (by decide) (by omega)) (Ze ?_))
  refine s_yieldV (fun y:σ ⊕ ρ=>.bool y.isLeft) (Sum.elim (I (k+1)) J) (fun y=>(Bk b3 [Vi 10] 3)::(Bk b2 [Value.slice A xs.length cp] 44)::Sum.elim X Y y) rfl rfl rfl rfl rfl (fun w1 hw1=>hY k x w1 hkl hI hw1) fun y hy=>?_
  refine s_rest Zk rfl ?_
  refine Rn [43,2,10] fun b30 hb30=>Aw (fun hc30=>?_) fun hc30=>?_
  ·obtain ⟨z,rfl⟩:∃ z,y=.inr z:=by rw [hb30] at hc30; cases y with | inl x=>simp at hc30 | inr z=>exact ⟨z,rfl⟩
   refine Rn [6,15,8,8,15] ?_
   exact retn rfl (fun w' hm=>⟨⟨_,rfl⟩,.inr ⟨z,hy,hm⟩⟩)
  obtain ⟨x',rfl⟩:∃ x',y=.inl x':=by rw [hb30] at hc30; cases y with | inl x=>exact ⟨x,rfl⟩ | inr z=>simp at hc30
  refine Rn [45,27,17,18,0,7] ?_
  refine Xv rfl (bg (c:=((10*(k+1):Nat):Int)) rfl rfl (by omega) (by omega)) ?_
  refine Rn [1,13] ?_
  exact aJ (x:=(k,x)) (μ:=fun x:Nat×σ=>q - x.1) (k+1,x') ⟨hkl,hy⟩ (by simp only; omega) Zu (fun _ h=>h)
 obtain rfl:k=q:=by omega
 refine Rn [34,19,19,35] ?_
 exact tw rfl (fun w' hm=>⟨⟨_,rfl⟩,.inl ⟨x,hI,hm⟩⟩)
end Go.Proofs.YtifekogdhjabaaaGreatDoor

namespace Go.Proofs.YtifekogdhjabaaaGreatDoor
open Go.RowKit Go.PK
theorem c_NaN (x:Int) (w:World) :
  Calls Tryz.prog 198 #[Vi x] w fun e w'=>e=.returned (.bool (false))∧Later w w':=by
 refine enter Tryz.func198 rfl Tryz.ntmps198 rfl ?_
 refine Rn [3,1,9,0,0,37,1,2,6] fun b5 hb5=>?_
 refine aw rfl rfl (fun w' hm=>⟨?_,hm.b⟩)
 rw [hb5]; simp
theorem c_Less (x y:Int) (w:World) :
  Calls Tryz.prog 172 #[Vi x,Vi y] w fun e w'=>e=.returned (.bool (decide (x < y)))∧Later w w':=by
 refine enter Tryz.func172 rfl Tryz.ntmps172 rfl ?_
 refine Rn [3,1,9,0] ?_
 refine Xh rfl Tryz.func198 rfl (fun w1 hw1=>c_NaN x w1) fun b6 hb6=>?_
 refine Rn [0,21] ?_
 refine cQ [] rfl rfl rfl rfl rfl Tryz.func198 Zk (fun hg=>by obtain ⟨hg0,_⟩:=hg; subst hg0; (try simp only [Qy]); refine ⟨_,rfl,?_⟩; exact fun w1 hw1=>c_NaN y w1) fun b9 hb9=>?_
 refine Rn [64,30,0,21,21,72,25,1,2,6] fun b10 hb10 b11 hb11 b15 hb15 b16 hb16=>?_
 refine aw rfl rfl (fun w' hm=>⟨?_,hm.b⟩)
 rw [hb16,hb15,hb11,hb10,hb9,hb6]; simp
theorem c_IsS {v:Value} {xs:List Int} (w:World) (h:ab i8 (fun _=>True) w v xs) (h0:0 < xs.length) :
  Calls Tryz.prog 149 #[v] w fun e w'=>e=.returned (.bool (decide (∀ j,j < xs.length - 1→xs.getD j 0≤xs.getD (j+1) 0)))∧Later w w':=by
 obtain ⟨A,cp,rfl,hlc,hmx,_⟩:=id h
 refine enter Tryz.func149 rfl Tryz.ntmps149 rfl ?_
 refine Rn [3,1,2,5,3,0,31] ?_
 refine Xv rfl (dH (c:=((xs.length - 1:Nat):Int)) rfl rfl (by omega) (by omega)) ?_
 refine Rn [1,2,14] ?_
 refine aO (σ:=Nat) (fun k=>k < xs.length∧∀ j,k≤j→j < xs.length - 1→xs.getD j 0≤xs.getD (j+1) 0) (fun k=>[(0,Value.slice A xs.length cp),(3,Vi (k:Nat))]) (fun k=>[]) (fun k=>[(w,fun _=>True)]) (fun k=>k) ((xs.length - 1)) (⟨by omega,fun j h1 h2=>by omega⟩) (aC Zu (fun _ h=>h)) ?_
 rintro k ⟨hkl,hadj⟩
 refine Rn [144,5,3,0,60,2,12] fun b8 hb8=>Aw (fun hc8=>?_) fun hc8=>?_
 ·have hk0:0 < k:=by omega
  have hk1:k - 1 < xs.length:=by omega
  obtain ⟨b0,o0,hA0,hD0,hc0,hz0⟩:=fW h hkl
  obtain ⟨b1,o1,hA1,hD1,hc1,hz1⟩:=fW h hk1
  refine Rn [16,5,14,5] ?_
  refine bc 10 ?_
  refine Rn [0,0] ?_
  refine Xv rfl (ae ij cT (congrArg (fun A=>some (Value.slice A xs.length cp)) hA0) rfl (hkl) rfl) (Xl rfl u3 rfl (an (v:=Vi xs[k]) (.head _) trivial (by rw [Nat.mul_one]; exact hc0)) ?_)
  refine Rn [0,0] ?_
  refine Xv rfl (dH (c:=((k - 1:Nat):Int)) rfl rfl (by omega) (by omega)) (Xv rfl (ae ij cT (congrArg (fun A=>some (Value.slice A xs.length cp)) hA1) rfl (hk1) rfl) (Xl rfl u3 rfl (an (v:=Vi (xs[k - 1])) (.head _) trivial (by rw [Nat.mul_one]; exact hc1)) (Xh rfl Tryz.func172 rfl (fun w1 hw1=>c_Less xs[k] (xs[k - 1]) w1) fun b20 hb20=>?_)))
  refine Rn [2,10] (Aw (fun hc20=>?_) fun hc20=>?_)
  ·have hlt:xs[k] < xs[k - 1]:=by rw [hb20] at hc20; simpa using hc20
   refine Rn [3,1,2,6,15,8,8,15,8] ?_
   refine aw rfl rfl (fun w' hm=>⟨?_,hm.b⟩)
   rw [decide_eq_false (fun q=>by
    have h9:=q (k - 1) (by omega)
    rw [show k - 1+1=k by omega,xA hk1,xA hkl] at h9
    omega)]
  have hge:xs[k - 1]≤xs[k]:=by rw [hb20] at hc20; simpa using hc20
  refine Rn [45,27,17,18,0] ?_
  refine Xv rfl (dH (c:=((k - 1:Nat):Int)) rfl rfl (by omega) (by omega)) ?_
  refine Rn [1,13] ?_
  exact aJ (k - 1) ⟨hk1,fun j h1 h2=>by
   rcases Nat.lt_or_ge j k with h3 | h3
   ·obtain rfl:j=k - 1:=by omega
    rw [show k - 1+1=k by omega,xA hk1,xA hkl]
    exact hge
   exact hadj j h3 h2⟩ (show k - 1 < k by omega) Zu (fun _ h=>h)
 obtain rfl:k=0:=by omega
 refine Rn [34,19,19,35,17,3,1,2,6] ?_
 refine aw rfl rfl (fun w' hm=>⟨?_,hm.b⟩)
 rw [decide_eq_true (fun j hj=>hadj j (Nat.zero_le _) hj)]
theorem adj5 {a b c d e:Int}:(∀ j,j < [a,b,c,d,e].length - 1→[a,b,c,d,e].getD j 0≤[a,b,c,d,e].getD (j+1) 0)↔a≤b∧b≤c∧c≤d∧d≤e:=by
 constructor
 ·intro h; exact ⟨h 0 (by simp),h 1 (by simp),h 2 (by simp),h 3 (by simp)⟩
 rintro ⟨h1,h2,h3,h4⟩ j hj
 have hj:j < 4:=hj
 match j,hj with
 | 0,_=>exact h1
 | 1,_=>exact h2
 | 2,_=>exact h3
 | 3,_=>exact h4
theorem g_rightO (x:PK.Ord) (first:Int) (w:World) (hx:x.okA) (hf:aj first) (hL:LD w) :
  Calls Tryz.prog 100 #[yV x first] w fun e w'=>e=.returned (.bool (decide (s8 (x,first))))∧Later w w':=by
 have hx1:(({ x with price:=first }:PK.Ord)).okA:=by
  obtain ⟨⟨q1,q2,q3,q4,q5,_⟩,q7,q8,q9⟩:=id hx
  exact ⟨⟨q1,q2,q3,q4,q5,hf⟩,q7,q8,q9⟩
 refine enter Tryz.func100 rfl Tryz.ntmps100 rfl ?_
 refine Rn [3,36,1,9,4] fun p1=>?_
 refine Xv rfl (bj (vs:=x.cells) f4 rfl cm rfl (fun i hi=>aa (vs:=bu x first) (.head _) (by rw [Nat.zero_add]; show (x.cells++[Vi first])[i]?=_; rw [List.getElem?_append_left hi]; exact List.getElem?_eq_getElem hi))) ?_
 refine Rn [28,32,9,4,51,4] fun p3=>?_
 refine aG [] rfl rfl rfl rfl cT rfl (by show 6≤9; decide) ?_
 refine Rn [2,5,3] ?_
 refine Xv rfl (bS (e:=25) (fz:=(0,0)) (cs:=(({ x with price:=first }:PK.Ord)).cells.toArray) f4 rfl rfl (.head _) cm) (Xh rfl Tryz.func51 rfl (fun w1 hw1=>AE ({ x with price:=first }:PK.Ord) w1 hx1 (hL.later hw1.b)) fun b10 hb10=>?_)
 refine Rn [43,0,22,22,90,72,25,0,22,22,90,63] fun b11 hb11 b16 hb16 b17 hb17 b22 hb22=>?_
 refine Rn [25,2,10] fun b23 hb23=>Aw (fun hc23=>?_) fun hc23=>?_
 ·simp only [hb23,hb22,hb17,hb16,hb11,hb10,Qz,ne_eq] at hc23
  refine Rn [3,1,2,6,8] ?_
  refine aw rfl rfl (fun w' hm=>⟨?_,hm.b⟩)
  rw [decide_eq_false (fun h=>by
   obtain ⟨h1,⟨h2,h3⟩,_⟩:=h
   have h4:=(bB _).2 h1
   dsimp only at h2 h3
   rcases hc23 with (h9 | h9) | h9
   ·rw [h4] at h9; cases h9
   ·omega
   omega)]
 simp only [hb23,hb22,hb17,hb16,hb11,hb10,Qz,ne_eq] at hc23
 have hW:ej ({ x with price:=first }:PK.Ord):=(bB _).1 hc23.1.1
 have hP:0≤x.price∧x.price≤999999999:=⟨by have:=hc23.1.2; omega,by have:=hc23.2; omega⟩
 refine Rn [16,5,3,4,4,51,38,2,12] fun b27 hb27=>Aw (fun hc27=>?_) fun hc27=>?_
 ·refine Rn [3,4,4,51,4,4,51,38,0,22,22,90,69,30,0,22,22,90,22,22,90,67] fun b34 hb34 b39 hb39 b40 hb40 b48 hb48=>?_
  refine Rn [30,1,2,6,8] fun b49 hb49=>?_
  refine aw rfl rfl (fun w' hm=>⟨?_,hm.b⟩)
  rw [show decide (s8 (x,first))=b49 from by
   rw [hb49,hb48,hb40,hb39,hb34,Bool.eq_iff_iff,decide_eq_true_iff]
   simp only [Bool.and_eq_true,decide_eq_true_eq]
   unfold s8; dsimp only; rw [if_pos hc27]
   exact ⟨fun ⟨_,_,a,b,c⟩=>⟨⟨a,b⟩,c⟩,fun ⟨⟨a,b⟩,c⟩=>⟨hW,hP,a,b,c⟩⟩]
 refine Rn [23,4,4,51,4,4,51,4,4,51,4,4,51] ?_
 refine ac (cs:=[Vi 0,Vi x.paid,Vi x.st,Vi x.prom,Vi x.copies]) rfl rfl rfl ij cT rP rfl rfl rfl ?_
 intro p62
 refine Xh rfl Tryz.func149 rfl (fun w1 hw1=>c_IsS w1 (dy (D:=fun _=>True) (e:=3) (r:=some (p62,[Vi 0,Vi x.paid,Vi x.st,Vi x.prom,Vi x.copies],5)) (n:=5) (ds:=[0,x.paid,x.st,x.prom,x.copies]) (cE rfl (by decide)) rfl (by obtain ⟨⟨_,_,_,_,q5,_⟩,q7,q8,q9⟩:=id hx; intro d hd; simp only [List.mem_cons,List.not_mem_nil,or_false] at hd; rcases hd with rfl | rfl | rfl | rfl | rfl <;> first | assumption | (unfold aj; decide)) hw1 (fun q hq=>by rw [List.mem_singleton.1 hq]; exact .head _) (fun _ _=>trivial)) (by simp)) fun b63 hb63=>?_
 refine Rn [0,22,22,90,63,30,1,2,6] fun b68 hb68 b69 hb69=>?_
 refine aw rfl rfl (fun w' hm=>⟨?_,hm.b⟩)
 rw [show decide (s8 (x,first))=b69 from by
  rw [hb69,hb68,hb63,Bool.eq_iff_iff,decide_eq_true_iff]
  simp only [Bool.and_eq_true,decide_eq_true_eq]
  rw [adj5]
  unfold s8; dsimp only; rw [if_neg hc27]
  exact ⟨fun ⟨_,_,a,b,c,d,e⟩=>⟨⟨a,b,c,d⟩,e⟩,fun ⟨⟨a,b,c,d⟩,e⟩=>⟨hW,hP,a,b,c,d,e⟩⟩]
theorem r_rightO (x:PK.Ord) (first:Int) (w:World) (hx:x.okA) (hf:aj first) :
  Calls Tryz.prog 101 #[yV x first] w fun e w'=>e=.returned (.bool (decide (s8 (x,first))))∧Later w w':=by
 have hx1:(({ x with price:=first }:PK.Ord)).okA:=by
  obtain ⟨⟨q1,q2,q3,q4,q5,_⟩,q7,q8,q9⟩:=id hx
  exact ⟨⟨q1,q2,q3,q4,q5,hf⟩,q7,q8,q9⟩
 refine enter Tryz.func101 rfl Tryz.ntmps101 rfl ?_
 refine Rn [3,36,1,9,4] fun p1=>?_
 refine Xv rfl (bj (vs:=x.cells) f4 rfl cm rfl (fun i hi=>aa (vs:=bu x first) (.head _) (by rw [Nat.zero_add]; show (x.cells++[Vi first])[i]?=_; rw [List.getElem?_append_left hi]; exact List.getElem?_eq_getElem hi))) ?_
 refine Rn [28,32,9,4,51,4] fun p3=>?_
 refine aG [] rfl rfl rfl rfl cT rfl (by show 6≤9; decide) ?_
 refine Rn [9] ?_
 refine Xv rfl (bS (e:=25) (fz:=(0,0)) (cs:=(({ x with price:=first }:PK.Ord)).cells.toArray) f4 rfl rfl (.head _) cm) (Xh rfl Tryz.func128 rfl (fun w1 hw1=>eL ({ x with price:=first }:PK.Ord) w1) fun b11 hb11=>?_)
 refine Rn [1,2,5,3,0,43,0,22,22,90,72,25,0,22,22,90,63] fun b13 hb13 b18 hb18 b19 hb19 b24 hb24=>?_
 refine Rn [25,2,10] fun b25 hb25=>Aw (fun hc25=>?_) fun hc25=>?_
 ·simp only [hb25,hb24,hb19,hb18,hb13,hb11,Qz,ne_eq] at hc25
  refine Rn [3,1,2,6,8] ?_
  refine aw rfl rfl (fun w' hm=>⟨?_,hm.b⟩)
  rw [decide_eq_false (fun h=>by
   obtain ⟨h1,⟨h2,h3⟩,_⟩:=h
   have h4:=(bB _).2 h1
   dsimp only at h2 h3
   rcases hc25 with (h9 | h9) | h9
   ·rw [h4] at h9; cases h9
   ·omega
   omega)]
 simp only [hb25,hb24,hb19,hb18,hb13,hb11,Qz,ne_eq] at hc25
 have hW:ej ({ x with price:=first }:PK.Ord):=(bB _).1 hc25.1.1
 have hP:0≤x.price∧x.price≤999999999:=⟨by have:=hc25.1.2; omega,by have:=hc25.2; omega⟩
 refine Rn [16,5,3,4,4,51,38,2,12] fun b29 hb29=>Aw (fun hc29=>?_) fun hc29=>?_
 ·refine Rn [3,4,4,51,4,4,51,38,0,22,22,90,69,30,0,22,22,90,22,22,90,67] fun b36 hb36 b41 hb41 b42 hb42 b50 hb50=>?_
  refine Rn [30,1,2,6,8] fun b51 hb51=>?_
  refine aw rfl rfl (fun w' hm=>⟨?_,hm.b⟩)
  rw [show decide (s8 (x,first))=b51 from by
   rw [hb51,hb50,hb42,hb41,hb36,Bool.eq_iff_iff,decide_eq_true_iff]
   simp only [Bool.and_eq_true,decide_eq_true_eq]
   unfold s8; dsimp only; rw [if_pos hc29]
   exact ⟨fun ⟨_,_,a,b,c⟩=>⟨⟨a,b⟩,c⟩,fun ⟨⟨a,b⟩,c⟩=>⟨hW,hP,a,b,c⟩⟩]
 refine Rn [23,4,4,51,57,0,22,22,90,22,22,90,69,30,0,22,22,90,22,22,90,69] fun b55 hb55 b63 hb63 b64 hb64 b72 hb72=>?_
 refine Rn [30,0,22,22,90,69,30,0,22,22,90,22,22,90,69] fun b73 hb73 b78 hb78 b79 hb79 b87 hb87=>?_
 refine Rn [30,1,2,6] fun b88 hb88=>?_
 refine aw rfl rfl (fun w' hm=>⟨?_,hm.b⟩)
 rw [show decide (s8 (x,first))=b88 from by
  rw [hb88,hb87,hb79,hb78,hb73,hb72,hb64,hb63,hb55,Bool.eq_iff_iff,decide_eq_true_iff]
  simp only [Bool.and_eq_true,decide_eq_true_eq]
  unfold s8; dsimp only; rw [if_neg hc29]
  exact ⟨fun ⟨_,_,a,b,c,d,e⟩=>⟨⟨⟨⟨a,b⟩,c⟩,by omega⟩,d⟩,fun ⟨⟨⟨⟨a,b⟩,c⟩,e⟩,d⟩=>⟨hW,hP,a,b,c,d,by omega⟩⟩]
open Go.RowKit Go.PK
theorem r_AnsP {w:World} {L:List (Nat×Obj)} {ro:List av} {pR pG:Nat} {tr:Int} {RF:ak} {s:SG} (hF:ag 5 RF s.fs.length (ax cD s.fs)) (hok:SGok s) (htr:s.tol=min (max tr 0) 1000000) {RE:ak} (hE:ag 10 RE s.L.length (ax du s.L)) (hm:Mem w (dG pR pG tr RE s.L.length++(bD pG RF s.fs.length++L)) ro) (t:ByteArray) (hs:t.size≤200000000) (h0:(aK t).2.2≠0) :
  Calls Tryz.prog 35 #[Pt pR,.string t] w fun e w'=>e=.returned (Vi (ah s (bn t).1 (bn t).2).1)∧∃ q:ak×ak,(ag 10 q.1 (ah s (bn t).1 (bn t).2).2.L.length (ax du (ah s (bn t).1 (bn t).2).2.L)∧ag 5 q.2 (ah s (bn t).1 (bn t).2).2.fs.length (ax cD (ah s (bn t).1 (bn t).2).2.fs))∧Mem w' (dG pR pG tr q.1 (ah s (bn t).1 (bn t).2).2.L.length++(bD pG q.2 (ah s (bn t).1 (bn t).2).2.fs.length++L)) ro:=by
 refine ay hm Tryz.func35 rfl Tryz.ntmps35 rfl ?_
 refine Rn [3,1,9,0] ?_
 refine Xd (R:=fun v wa wb=>∃ A c,v=.tuple #[.slice A (aK t).1.length c,Vi (aK t).2.1,Vi (aK t).2.2]∧ab aZ (fun b=>wa.heap.size≤b) wb (.slice A (aK t).1.length c) (aK t).1) rfl Tryz.func85 rfl (fun w1 hw1=>(gK t w1 hs).mono fun e w2 ⟨v,h1,h2,h3⟩=>by obtain ⟨A,c,rfl,_⟩:=id h3; exact ⟨_,h1,h2,A,c,rfl,h3⟩) fun v16 wa16 wb16 hm16 hl16 hR16=>?_
 obtain ⟨A16,c16,rfl,hp16⟩:=hR16
 refine Rn [0,20,20,20,1,1,1,2,5,3,0,37,2,10] fun b21 hb21=>Aw (fun hc21=>?_) fun hc21=>?_
 ·refine Rn [3,0,1,2,6,8] ?_
  refine aw rfl rfl (fun w' hm'=>?_)
  rw [show (ah s (bn t).1 (bn t).2)=((aK t).2.2,s) from by rw [show bn t=(co,(aK t).2.2) from if_pos h0]; exact if_pos h0]
  exact ⟨rfl,(RE,RF),⟨hE,hF⟩,hm'.less (.refl _) (fun _ h=>.tail _ h)⟩
 exfalso
 rw [hb21] at hc21
 exact absurd (by simpa using hc21) h0
theorem r_AnsE {w:World} {L:List (Nat×Obj)} {ro:List av} {pR pG:Nat} {tr:Int} {RF:ak} {s:SG} (hF:ag 5 RF s.fs.length (ax cD s.fs)) (hok:SGok s) (htr:s.tol=min (max tr 0) 1000000) {RE:ak} (hE:ag 10 RE s.L.length (ax du s.L)) (hm:Mem w (dG pR pG tr RE s.L.length++(bD pG RF s.fs.length++L)) ro) (t:ByteArray) (hs:t.size≤200000000) {a:PK.Ord} {c:Int} (h0:(aK t).2.2=0) (hrd:yK (aK t).1=(a,c)) (hc0:c≠0) :
  Calls Tryz.prog 35 #[Pt pR,.string t] w fun e w'=>e=.returned (Vi (ah s (bn t).1 (bn t).2).1)∧∃ q:ak×ak,(ag 10 q.1 (ah s (bn t).1 (bn t).2).2.L.length (ax du (ah s (bn t).1 (bn t).2).2.L)∧ag 5 q.2 (ah s (bn t).1 (bn t).2).2.fs.length (ax cD (ah s (bn t).1 (bn t).2).2.fs))∧Mem w' (dG pR pG tr q.1 (ah s (bn t).1 (bn t).2).2.L.length++(bD pG q.2 (ah s (bn t).1 (bn t).2).2.fs.length++L)) ro:=by
 refine ay hm Tryz.func35 rfl Tryz.ntmps35 rfl ?_
 refine Rn [3,1,9,0] ?_
 refine Xd (R:=fun v wa wb=>∃ A c,v=.tuple #[.slice A (aK t).1.length c,Vi (aK t).2.1,Vi (aK t).2.2]∧ab aZ (fun b=>wa.heap.size≤b) wb (.slice A (aK t).1.length c) (aK t).1) rfl Tryz.func85 rfl (fun w1 hw1=>(gK t w1 hs).mono fun e w2 ⟨v,h1,h2,h3⟩=>by obtain ⟨A,c,rfl,_⟩:=id h3; exact ⟨_,h1,h2,A,c,rfl,h3⟩) fun v16 wa16 wb16 hm16 hl16 hR16=>?_
 obtain ⟨A16,c16,rfl,hp16⟩:=hR16
 refine Rn [0,20,20,20,1,1,1,2,5,3,0,37,2,10] fun b21 hb21=>Aw (fun hc21=>?_) fun hc21=>?_
 ·exfalso
  rw [hb21] at hc21
  exact absurd h0 (by simpa using hc21)
 refine Rn [23,0] ?_
 refine Xc (v:=Value.tuple #[.agg a.cells.toArray,Vi c]) rfl Tryz.func86 rfl (fun w1 hw1=>by
  have h:=js (l:=(aK t).1) w1 (bY hp16 hw1 Zh hm16)
  rw [hrd] at h; exact h) ?_
 refine Rn [0,20,20,28,32,1,2,5,3,0,37,2,10] fun p8 b29 hb29=>Aw (fun hc29=>?_) fun hc29=>?_
 ·refine Rn [3,0,1,2,6,8] ?_
  refine aw rfl rfl (fun w' hm'=>?_)
  rw [show (ah s (bn t).1 (bn t).2)=(c,s) from by rw [show bn t=(a,c) from (if_neg (fun q=>q h0)).trans ((lO _).trans hrd)]; show ah s a c=_; exact if_pos hc0]
  exact ⟨rfl,(RE,RF),⟨hE,hF⟩,hm'.less Ls (fun _ h=>.tail _ h)⟩
 exfalso
 rw [hb29] at hc29
 exact absurd (by simpa using hc29) hc0
theorem r_Ans0 {w:World} {L:List (Nat×Obj)} {ro:List av} {pR pG:Nat} {tr:Int} {RF:ak} {s:SG} (hF:ag 5 RF s.fs.length (ax cD s.fs)) (hok:SGok s) (htr:s.tol=min (max tr 0) 1000000) {RE:ak} (hE:ag 10 RE s.L.length (ax du s.L)) (hm:Mem w (dG pR pG tr RE s.L.length++(bD pG RF s.fs.length++L)) ro) (t:ByteArray) (hs:t.size≤200000000) {a:PK.Ord} (h0:(aK t).2.2=0) (hrd:yK (aK t).1=(a,0)) (hix:sU s.L a.id=-1) (hl:cq s.L a.id=none) :
  Calls Tryz.prog 35 #[Pt pR,.string t] w fun e w'=>e=.returned (Vi (ah s (bn t).1 (bn t).2).1)∧∃ q:ak×ak,(ag 10 q.1 (ah s (bn t).1 (bn t).2).2.L.length (ax du (ah s (bn t).1 (bn t).2).2.L)∧ag 5 q.2 (ah s (bn t).1 (bn t).2).2.fs.length (ax cD (ah s (bn t).1 (bn t).2).2.fs))∧Mem w' (dG pR pG tr q.1 (ah s (bn t).1 (bn t).2).2.L.length++(bD pG q.2 (ah s (bn t).1 (bn t).2).2.fs.length++L)) ro:=by
 refine ay hm Tryz.func35 rfl Tryz.ntmps35 rfl ?_
 refine Rn [3,1,9,0] ?_
 refine Xd (R:=fun v wa wb=>∃ A c,v=.tuple #[.slice A (aK t).1.length c,Vi (aK t).2.1,Vi (aK t).2.2]∧ab aZ (fun b=>wa.heap.size≤b) wb (.slice A (aK t).1.length c) (aK t).1) rfl Tryz.func85 rfl (fun w1 hw1=>(gK t w1 hs).mono fun e w2 ⟨v,h1,h2,h3⟩=>by obtain ⟨A,c,rfl,_⟩:=id h3; exact ⟨_,h1,h2,A,c,rfl,h3⟩) fun v16 wa16 wb16 hm16 hl16 hR16=>?_
 obtain ⟨A16,c16,rfl,hp16⟩:=hR16
 refine Rn [0,20,20,20,1,1,1,2,5,3,0,37,2,10] fun b21 hb21=>Aw (fun hc21=>?_) fun hc21=>?_
 ·exfalso
  rw [hb21] at hc21
  exact absurd h0 (by simpa using hc21)
 refine Rn [23,0] ?_
 refine Xc (v:=Value.tuple #[.agg a.cells.toArray,Vi 0]) rfl Tryz.func86 rfl (fun w1 hw1=>by
  have h:=js (l:=(aK t).1) w1 (bY hp16 hw1 Zh hm16)
  rw [hrd] at h; exact h) ?_
 refine Rn [0,20,20,28,32,1,2,5,3,0,37,2,10] fun p8 b29 hb29=>Aw (fun hc29=>?_) fun hc29=>?_
 ·exfalso
  rw [hb29] at hc29
  revert hc29; simp
 refine Rn [23,0,4,7] ?_
 refine Xc (v:=Vi (-1)) rfl Tryz.func82 rfl (fun w1 hw1=>by
  have h:=dU (id:=a.id) w1 (aa (vs:=[Pt pG,Vi tr,au RE s.L.length]) (.tail _ (.head _)) rfl w1 hw1) (hw1.rowIn (fun p hp=>(.tail _ (.tail _ (List.mem_append_left _ hp))))) hE
  rw [hix] at h; exact h) ?_
 refine Rn [1,2,5,3,0,24,2,12] fun b36 hb36=>Aw (fun hc36=>?_) fun hc36=>?_
 ·refine Rn [3,1,2,6,8] ?_
  refine aw rfl rfl (fun w' hm'=>?_)
  rw [show (ah s (bn t).1 (bn t).2)=(32,s) from by rw [show bn t=(a,0) from (if_neg (fun q=>q h0)).trans ((lO _).trans hrd)]; show ah s a 0=_; unfold ah; rw [if_neg (by decide),hl]]
  exact ⟨rfl,(RE,RF),⟨hE,hF⟩,hm'.less Ls (fun _ h=>.tail _ h)⟩
 omega
theorem r_Ans1 {w:World} {L:List (Nat×Obj)} {ro:List av} {pR pG:Nat} {tr:Int} {RF:ak} {s:SG} (hF:ag 5 RF s.fs.length (ax cD s.fs)) (hok:SGok s) (htr:s.tol=min (max tr 0) 1000000) {b c:Nat} {cs:List Value} (hE:ag 10 (some (b,cs,c)) s.L.length (ax du s.L)) (hm:Mem w ((Bk pR [Pt pG,Vi tr,au (some (b,cs,c)) s.L.length] 91)::(Bk b cs 144)::(bD pG RF s.fs.length++L)) ro) {x:PK.Ord} {first:Int} {k:Nat} (hk:k < s.L.length) (he:s.L[k]=(x,first)) (t:ByteArray) (hs:t.size≤200000000) {a:PK.Ord} (h0:(aK t).2.2=0) (hrd:yK (aK t).1=(a,0)) (hix:sU s.L a.id=k) (hl:cq s.L a.id=some (x,first)) (hset:∀ y:EN,y.1.id=a.id→dl s.L y=s.L.set k y) :
  Calls Tryz.prog 35 #[Pt pR,.string t] w fun e w'=>e=.returned (Vi (ah s (bn t).1 (bn t).2).1)∧∃ q:ak×ak,(ag 10 q.1 (ah s (bn t).1 (bn t).2).2.L.length (ax du (ah s (bn t).1 (bn t).2).2.L)∧ag 5 q.2 (ah s (bn t).1 (bn t).2).2.fs.length (ax cD (ah s (bn t).1 (bn t).2).2.fs))∧Mem w' (dG pR pG tr q.1 (ah s (bn t).1 (bn t).2).2.L.length++(bD pG q.2 (ah s (bn t).1 (bn t).2).2.fs.length++L)) ro:=by
 have hwo:ej a:=by have h:=rdO_wr (l:=(aK t).1) (by rw [lO,hrd]); rw [lO,hrd] at h; exact h
 unfold ej at hwo
 obtain ⟨⟨y1,y2⟩,⟨y3,y4⟩,⟨y9,y10⟩,⟨y11,y12⟩,⟨y5,y6⟩,y7,y8⟩:=hwo
 obtain ⟨hx,hfi1,hfi2⟩:=hok.at hl
 have hxid:x.id=a.id:=(bL hl).2
 have hmx:=cV hE
 unfold maxLen at hmx
 have hmf:=cV hF
 unfold maxLen at hmf
 obtain ⟨r1,r2,r3,r4,r5⟩:=id hE
 dsimp only at r2 r3 r4
 have htol:=hok.tol
 obtain ⟨⟨o1,o2⟩,⟨o3,o4⟩,⟨o5,o6⟩,⟨o7,o8⟩,⟨o9,o10⟩,⟨o11,o12⟩,⟨o13,o14⟩,⟨o15,o16⟩,o17,o18⟩:=show dm x from hx
 have hres:=vS hx
 have hcp:=mul9 (j:=a.copies) (m:=a.price) (a:=9999) (b:=999999999) ⟨by omega,by omega⟩ ⟨by omega,by omega⟩
 refine ay hm Tryz.func35 rfl Tryz.ntmps35 rfl ?_
 refine Rn [3,1,9,0] ?_
 refine Xd (R:=fun v wa wb=>∃ A c,v=.tuple #[.slice A (aK t).1.length c,Vi (aK t).2.1,Vi (aK t).2.2]∧ab aZ (fun b=>wa.heap.size≤b) wb (.slice A (aK t).1.length c) (aK t).1) rfl Tryz.func85 rfl (fun w1 hw1=>(gK t w1 hs).mono fun e w2 ⟨v,h1,h2,h3⟩=>by obtain ⟨A,c,rfl,_⟩:=id h3; exact ⟨_,h1,h2,A,c,rfl,h3⟩) fun v16 wa16 wb16 hm16 hl16 hR16=>?_
 obtain ⟨A16,c16,rfl,hp16⟩:=hR16
 refine Rn [0,20,20,20,1,1,1,2,5,3,0,37,2,10] fun b21 hb21=>Aw (fun hc21=>?_) fun hc21=>?_
 ·exfalso
  rw [hb21] at hc21
  exact absurd h0 (by simpa using hc21)
 refine Rn [23,0] ?_
 refine Xc (v:=Value.tuple #[.agg a.cells.toArray,Vi 0]) rfl Tryz.func86 rfl (fun w1 hw1=>by
  have h:=js (l:=(aK t).1) w1 (bY hp16 hw1 Zh hm16)
  rw [hrd] at h; exact h) ?_
 refine Rn [0,20,20,28,32,1,2,5,3,0,37,2,10] fun p8 b29 hb29=>Aw (fun hc29=>?_) fun hc29=>?_
 ·exfalso
  rw [hb29] at hc29
  revert hc29; simp
 refine Rn [23,0,152,7] ?_
 refine Xc (v:=Vi ((k:Nat):Int)) rfl Tryz.func82 rfl (fun w1 hw1=>by
  have h:=dU (id:=a.id) w1 (aa (vs:=[Pt pG,Vi tr,au (some (b,cs,c)) s.L.length]) (.tail _ (.head _)) rfl w1 hw1) (hw1.rowIn (fun p hp=>by rw [show p=_ from List.mem_singleton.1 hp]; exact (.tail _ (.tail _ (.head _))))) hE
  rw [hix] at h; exact h) ?_
 refine Rn [1,2,5,3,0,24,2,12] fun b36 hb36=>Aw (fun hc36=>?_) fun hc36=>?_
 ·omega
 refine Rn [23,0,11,152,7,0,46,152] ?_
 refine Xv rfl (bj (vs:=x.cells) f4 rfl cm rfl (fun i hi=>aa (vs:=cs) (.tail _ (.tail _ (.head _))) (cg bf hE hk (j:=i) (by rw [he,show du (x,first)=x.cells++[Vi first] from rfl,List.getElem?_append_left hi]; exact List.getElem?_eq_getElem hi)))) ?_
 refine Rn [28,32,2,5,3,152,7,37,0,153,40,74,25,2,12] fun p11 b47 hb47 b51 hb51 b52 hb52=>Aw (fun hc52=>?_) fun hc52=>?_
 ·refine Rn [3,1,2,6,8] ?_
  refine aw rfl rfl (fun w' hm'=>?_)
  rw [show (ah s (bn t).1 (bn t).2)=(50,s) from by rw [show bn t=(a,0) from (if_neg (fun q=>q h0)).trans ((lO _).trans hrd)]; show ah s a 0=_; unfold ah; rw [if_neg (by decide),hl]; dsimp only; rw [if_pos (by omega)]]
  exact ⟨rfl,((some (b,cs,c)),RF),⟨hE,hF⟩,hm'.less (Ls.trans Ls) (fun _ h=>.tail _ h)⟩
 refine Rn [16,5,3,152,7,152,7,37,0,153] fun b57 hb57=>?_
 refine fV [] rfl rfl rfl rfl rfl (v:=Value.agg #[Vi x.src,Vi x.num]) (fun hg=>by obtain ⟨hg0,_⟩:=hg; subst hg0; (try simp only [Qy]); exact bj (vs:=[Vi x.src,Vi x.num]) l9 rfl iL rfl (fun j hj=>aa (vs:=x.cells) (.head _) (by match j,hj with | 0,_=>rfl | 1,_=>rfl))) ?_
 refine Rn [153] ?_
 refine fV [] rfl rfl rfl rfl rfl (v:=Value.agg #[Vi a.src,Vi a.num]) (fun hg=>by obtain ⟨hg0,_⟩:=hg; subst hg0; (try simp only [Qy]); exact bj (vs:=[Vi a.src,Vi a.num]) l9 rfl iL rfl (fun j hj=>aa (vs:=a.cells) (.tail _ (.head _)) (by match j,hj with | 0,_=>rfl | 1,_=>rfl))) ?_
 refine fp [] rfl rfl rfl rfl rfl (c:=!decide (x.src=a.src∧x.num=a.num)) (fun hg=>by obtain ⟨hg0,_⟩:=hg; subst hg0; (try simp only [Qy]); exact ui Zk rfl rfl (fun w1=>xn w1 x.src x.num a.src a.num)) fun b63 hb63=>?_
 refine Rn [25,0,153,40,153,40,63,25,2,10] fun b64 hb64 b70 hb70 b71 hb71=>Aw (fun hc71=>?_) fun hc71=>?_
 ·simp only [hb71,hb70,hb64,hb63,hb57,Qz,ne_eq] at hc71
  refine Rn [3,1,2,6,8] ?_
  refine aw rfl rfl (fun w' hm'=>?_)
  have hq:(x.fund≠a.fund∨¬(x.src=a.src∧x.num=a.num))∨a.copies > x.copies:=by
   rcases hc71 with (h | h) | h
   ·exact .inl (.inl h)
   ·exact .inl (.inr h)
   exact .inr (by omega)
  rw [show (ah s (bn t).1 (bn t).2)=(1,s) from by rw [show bn t=(a,0) from (if_neg (fun q=>q h0)).trans ((lO _).trans hrd)]; show ah s a 0=_; unfold ah; rw [if_neg (by decide),hl]; dsimp only; rw [if_neg (by omega),if_pos hq]]
  exact ⟨rfl,((some (b,cs,c)),RF),⟨hE,hF⟩,hm'.less (Ls.trans Ls) (fun _ h=>.tail _ h)⟩
 simp only [hb71,hb70,hb64,hb63,hb57,Qz,ne_eq] at hc71
 refine Rn [16,5] ?_
 refine bc 13 ?_
 refine Rn [0,152,7,0,11,152,7,0,46,152] ?_
 refine Xl rfl u3 rfl (aa (vs:=cs) (.tail _ (.tail _ (.tail _ (.head _)))) (cg bf hE hk (j:=9) (by rw [he]; rfl))) (Xh rfl Tryz.func87 rfl (fun w1 hw1=>r_near htr a.price first w1 (aa (vs:=[Pt pG,Vi tr,au (some (b,cs,c)) s.L.length]) (.tail _ (.tail _ (.head _))) rfl w1 hw1) ⟨y5,y6⟩ ⟨hfi1,hfi2⟩) fun b83 hb83=>?_)
 refine Rn [1,2,5,3,0,43,2,10] fun b85 hb85=>Aw (fun hc85=>?_) fun hc85=>?_
 ·simp only [hb85,hb83,Qz,ne_eq] at hc85
  refine Rn [3,1,2,6,8] ?_
  refine aw rfl rfl (fun w' hm'=>?_)
  have hq:¬((x.fund≠a.fund∨¬(x.src=a.src∧x.num=a.num))∨a.copies > x.copies):=by
   rintro ((h | h) | h)
   ·exact h hc71.1.1
   ·exact h hc71.1.2
   have h2:=hc71.2; omega
  rw [show (ah s (bn t).1 (bn t).2)=(61,s) from by rw [show bn t=(a,0) from (if_neg (fun q=>q h0)).trans ((lO _).trans hrd)]; show ah s a 0=_; unfold ah; rw [if_neg (by decide),hl]; dsimp only; rw [if_neg (by omega),if_neg hq,if_pos (by simpa using hc85)]]
  exact ⟨rfl,((some (b,cs,c)),RF),⟨hE,hF⟩,hm'.less (Ls.trans Ls) (fun _ h=>.tail _ h)⟩
 simp only [hb85,hb83,Qz,ne_eq] at hc85
 refine Rn [16,5] ?_
 refine bc 9 ?_
 refine Rn [152,7,152,7] ?_
 refine Xv rfl (cY rfl rfl rfl Zo) ?_
 refine Rn [39] ?_
 refine Xc rfl Tryz.func88 rfl (fun w1 hw1=>r_res x w1 hx) ?_
 have hpd:x.paid=0:=by omega
 have hry:aL (a6 x a)=a.copies*a.price:=by unfold aL a6; dsimp only; rw [hpd,Int.sub_zero]
 refine Xv (v:=Vi ((aL (a6 x a)) - (aL x))) rfl (dH rfl rfl (by rw [hry]) (by omega)) ?_
 refine Rn [1,2] ?_
 refine cO (σ:=Int×ak) (fun r22=>r22.1=(cj s.fs x.fund (aL x) (aL (a6 x a))).1∧ag 5 r22.2 (cj s.fs x.fund (aL x) (aL (a6 x a))).2.length (ax cD (cj s.fs x.fund (aL x) (aL (a6 x a))).2)) (fun r22=>[(0,Pt pR),(7,Vi r22.1),(8,Pt p8),(10,Vi (k:Nat)),(11,Pt p11)]) (fun r22=>(Bk p11 x.cells 25)::(Bk p8 a.cells 25)::(Bk pR [Pt pG,Vi tr,au (some (b,cs,c)) s.L.length] 91)::(Bk b cs 144)::(bD pG r22.2 (cj s.fs x.fund (aL x) (aL (a6 x a))).2.length++L)) (fun r22=>ro) ?_ ?_
 ·refine Rn [3,0,60,2,12] fun b95 hb95=>Aw (fun hc95=>?_) fun hc95=>?_
  ·refine bc 7 ?_
   refine Rn [0,11,152,51,152,7,0] ?_
   refine aI (τ:=ak) (v:=Vi (ap bJ s.fs x.fund ((aL (a6 x a)) - (aL x))).1) (fun q=>ag 5 q (ap bJ s.fs x.fund ((aL (a6 x a)) - (aL x))).2.length (ax cD (ap bJ s.fs x.fund ((aL (a6 x a)) - (aL x))).2)) (fun q=>(Bk p11 x.cells 25)::(Bk p8 a.cells 25)::(Bk pR [Pt pG,Vi tr,au (some (b,cs,c)) s.L.length] 91)::(Bk b cs 144)::(bD pG q (ap bJ s.fs x.fund ((aL (a6 x a)) - (aL x))).2.length++L)) rfl rfl Tryz.func89 Zk rfl (fun w1 hw1=>r_enc (l1:=[(Bk p11 x.cells 25),(Bk p8 a.cells 25),(Bk pR [Pt pG,Vi tr,au (some (b,cs,c)) s.L.length] 91),(Bk b cs 144)]) (L:=L) (RF:=RF) (fs:=s.fs) hw1 hF x.fund ((aL (a6 x a)) - (aL x)) hok.fs) fun q103 hq103=>?_
   refine Rn [1,13] ?_
   exact cv ((ap bJ s.fs x.fund ((aL (a6 x a)) - (aL x))).1,q103) (by unfold cj; rw [if_pos (by omega)]; exact ⟨rfl,hq103⟩) Zu (fun w1 h=>(h.less (.refl _) (fun _ h=>.tail _ h)).to (by unfold cj; rw [if_pos (by omega)]))
  refine bc 8 ?_
  refine Rn [0,11,152,51,152,7,0] ?_
  refine Xv (v:=Vi ((aL x) - (aL (a6 x a)))) rfl (by have h:=eV (n:=(aL x) - (aL (a6 x a))) (by omega); rw [← h,show (aL x) - (aL (a6 x a))=-((aL (a6 x a)) - (aL x)) by omega]; exact v_negI rfl) ?_
  refine aI (τ:=ak) (v:=Vi (ap aS s.fs x.fund ((aL x) - (aL (a6 x a)))).1) (fun q=>ag 5 q (ap aS s.fs x.fund ((aL x) - (aL (a6 x a)))).2.length (ax cD (ap aS s.fs x.fund ((aL x) - (aL (a6 x a)))).2)) (fun q=>(Bk p11 x.cells 25)::(Bk p8 a.cells 25)::(Bk pR [Pt pG,Vi tr,au (some (b,cs,c)) s.L.length] 91)::(Bk b cs 144)::(bD pG q (ap aS s.fs x.fund ((aL x) - (aL (a6 x a)))).2.length++L)) rfl rfl Tryz.func90 Zk rfl (fun w1 hw1=>r_rel (l1:=[(Bk p11 x.cells 25),(Bk p8 a.cells 25),(Bk pR [Pt pG,Vi tr,au (some (b,cs,c)) s.L.length] 91),(Bk b cs 144)]) (L:=L) (RF:=RF) (fs:=s.fs) hw1 hF x.fund ((aL x) - (aL (a6 x a))) hok.fs) fun q112 hq112=>?_
  refine Rn [1,13] ?_
  exact cv ((ap aS s.fs x.fund ((aL x) - (aL (a6 x a)))).1,q112) (by unfold cj; rw [if_neg (by omega)]; exact ⟨rfl,hq112⟩) Zu (fun w1 h=>(h.less (.refl _) (fun _ h=>.tail _ h)).to (by unfold cj; rw [if_neg (by omega)]))
 rintro ⟨c22,m22⟩ ⟨hq1,hq2⟩
 refine Rn [144] ?_
 dsimp only at hq1 hq2
 refine Rn [5,3,0,37,2,12] fun b114 hb114=>Aw (fun hc114=>?_) fun hc114=>?_
 ·refine Rn [3,0,1,2,6,8] ?_
  have hq:¬((x.fund≠a.fund∨¬(x.src=a.src∧x.num=a.num))∨a.copies > x.copies):=by
   rintro ((h | h) | h)
   ·exact h hc71.1.1
   ·exact h hc71.1.2
   have h2:=hc71.2; omega
  refine aw rfl rfl (fun w' hm'=>?_)
  have hp0:(cj s.fs x.fund (aL x) (aL (a6 x a))).1≠0:=by rw [← hq1]; simpa using hc114
  have hf1:(cj s.fs x.fund (aL x) (aL (a6 x a))).2=s.fs:=xY hp0
  rw [hf1] at hq2 hm'
  rw [show (ah s (bn t).1 (bn t).2)=((cj s.fs x.fund (aL x) (aL (a6 x a))).1,s) from by rw [show bn t=(a,0) from (if_neg (fun q=>q h0)).trans ((lO _).trans hrd)]; show ah s a 0=_; unfold ah; rw [if_neg (by decide),hl]; dsimp only; rw [if_neg (by omega),if_neg hq,if_neg (by simpa using hc85),if_pos hp0]]
  exact ⟨by rw [hq1],((some (b,cs,c)),m22),⟨hE,hq2⟩,hm'.less (Ls.trans Ls) (fun _ h=>h)⟩
 refine Rn [16,5] ?_
 refine bc 10 ?_
 refine Rn [0,11,152,7,0,152,7,46,152,152] ?_
 refine aG (cs:=cs) (off:=0+k*10+6) (e:=144) (l2:=bD pG m22 (cj s.fs x.fund (aL x) (aL (a6 x a))).2.length++L) [(Bk p11 x.cells 25),(Bk p8 a.cells 25),(Bk pR [Pt pG,Vi tr,au (some (b,cs,c)) s.L.length] 91)] rfl rfl rfl rfl cT rfl (by omega) ?_
 refine Rn [2,5] ?_
 have hE1:=j6 hE hk ({ x with prom:=a.copies },first) (j:=6) (m:=1) (vs:=(Vi a.copies).cells.toList) rfl (by decide) (by rw [he]; rfl)
 have hcl1:(cs.take (0+k*10+6)++(Vi a.copies).cells.toList++cs.drop (0+k*10+6+1)).length=cs.length:=by have h4:=hE1.2.2.2.1; dsimp only at h4; rw [h4,r4]
 refine bc 10 ?_
 refine Rn [0,11,152] ?_
 refine Xl rfl mW rfl (aa (vs:=[Pt pG,Vi tr,au (some (b,cs,c)) s.L.length]) (.tail _ (.tail _ (.head _))) rfl) ?_
 refine Rn [0,152] ?_
 refine Xl rfl u3 rfl (aa (vs:=a.cells) (.tail _ (.head _)) rfl) ?_
 refine Rn [46,152,152] ?_
 refine aG (cs:=(cs.take (0+k*10+6)++(Vi a.copies).cells.toList++cs.drop (0+k*10+6+1))) (off:=0+k*10+5) (e:=144) (l2:=bD pG m22 (cj s.fs x.fund (aL x) (aL (a6 x a))).2.length++L) [(Bk p11 x.cells 25),(Bk p8 a.cells 25),(Bk pR [Pt pG,Vi tr,au (some (b,cs,c)) s.L.length] 91)] rfl rfl rfl rfl cT rfl (by rw [hcl1]; omega) ?_
 refine Rn [9,1,2,6] ?_
 have hq:¬((x.fund≠a.fund∨¬(x.src=a.src∧x.num=a.num))∨a.copies > x.copies):=by
  rintro ((h | h) | h)
  ·exact h hc71.1.1
  ·exact h hc71.1.2
  have h2:=hc71.2; omega
 refine aw rfl rfl (fun w' hm'=>?_)
 have hp0:(cj s.fs x.fund (aL x) (aL (a6 x a))).1=0:=hq1.symm.trans hc114
 rw [show (ah s (bn t).1 (bn t).2)=(0,⟨(cj s.fs x.fund (aL x) (aL (a6 x a))).2,s.tol,s.L.set k ((a6 x a),first)⟩) from by rw [show bn t=(a,0) from (if_neg (fun q=>q h0)).trans ((lO _).trans hrd)]; show ah s a 0=_; unfold ah; rw [if_neg (by decide),hl]; dsimp only; rw [if_neg (by omega),if_neg hq,if_neg (by simpa using hc85),if_neg (by rw [hp0]; decide)]; rw [hset ((a6 x a),first) hxid]]
 have hE2:=j6 hE1 (by rw [List.length_set]; exact hk) ((a6 x a),first) (j:=5) (m:=1) (vs:=(Vi a.price).cells.toList) rfl (by decide) (by rw [List.getElem_set_self]; rfl)
 rw [List.set_set] at hE2
 exact ⟨rfl,(some (b,((cs.take (0+k*10+6)++(Vi a.copies).cells.toList++cs.drop (0+k*10+6+1)).take (0+k*10+5)++(Vi a.price).cells.toList++(cs.take (0+k*10+6)++(Vi a.copies).cells.toList++cs.drop (0+k*10+6+1)).drop (0+k*10+5+1)),c),m22),⟨by rw [List.length_set]; exact hE2,hq2⟩,(hm'.less (Ls.trans Ls) (fun _ h=>h)).to (by rw [List.length_set]; rfl)⟩
theorem r_Ans {w:World} {L:List (Nat×Obj)} {ro:List av} {pR pG:Nat} {tr:Int} {RF:ak} {s:SG} (hF:ag 5 RF s.fs.length (ax cD s.fs)) (hok:SGok s) (htr:s.tol=min (max tr 0) 1000000) {RE:ak} (hE:ag 10 RE s.L.length (ax du s.L)) (hm:Mem w (dG pR pG tr RE s.L.length++(bD pG RF s.fs.length++L)) ro) (t:ByteArray) (hs:t.size≤200000000):Calls Tryz.prog 35 #[Pt pR,.string t] w fun e w'=>e=.returned (Vi (ah s (bn t).1 (bn t).2).1)∧∃ q:ak×ak,(ag 10 q.1 (ah s (bn t).1 (bn t).2).2.L.length (ax du (ah s (bn t).1 (bn t).2).2.L)∧ag 5 q.2 (ah s (bn t).1 (bn t).2).2.fs.length (ax cD (ah s (bn t).1 (bn t).2).2.fs))∧Mem w' (dG pR pG tr q.1 (ah s (bn t).1 (bn t).2).2.L.length++(bD pG q.2 (ah s (bn t).1 (bn t).2).2.fs.length++L)) ro:=by
 by_cases h0:(aK t).2.2=0
 ·obtain ⟨a,c,hrd⟩:∃ a c,yK (aK t).1=(a,c):=⟨_,_,rfl⟩
  by_cases hc:c=0
  ·subst hc
   cases hl:cq s.L a.id with
   | none=>exact r_Ans0 hF hok htr hE hm t hs h0 hrd (gZ hl) hl
   | some z =>
    obtain ⟨x,first⟩:=z
    obtain ⟨k,hk,h1,h2,_,h4⟩:=gY hl
    obtain ⟨b,cs,c,rfl⟩:=bN bf (by decide) hE hk
    exact r_Ans1 hF hok htr hE hm hk h2 t hs h0 hrd h1 hl h4
  exact r_AnsE hF hok htr hE hm t hs h0 hrd hc
 exact r_AnsP hF hok htr hE hm t hs h0
theorem r_Pay0 {w:World} {L:List (Nat×Obj)} {ro:List av} {pR pG:Nat} {tr:Int} {RF:ak} {s:SG} (hF:ag 5 RF s.fs.length (ax cD s.fs)) (hok:SGok s) (htr:s.tol=min (max tr 0) 1000000) {RE:ak} (hE:ag 10 RE s.L.length (ax du s.L)) (hm:Mem w (dG pR pG tr RE s.L.length++(bD pG RF s.fs.length++L)) ro) (ln:PK.Ord) (hix:sU s.L ln.id=-1) (hl:cq s.L ln.id=none) (hln:(1≤ln.copies∧ln.copies≤9999)∧0≤ln.price∧ln.price≤999999999) :
  Calls Tryz.prog 93 #[Pt pR,.agg ln.cells.toArray] w fun e w'=>e=.returned (Vi (bZ s ln).1)∧∃ q:ak×ak,(ag 10 q.1 (bZ s ln).2.L.length (ax du (bZ s ln).2.L)∧ag 5 q.2 (bZ s ln).2.fs.length (ax cD (bZ s ln).2.fs))∧Mem w' (dG pR pG tr q.1 (bZ s ln).2.L.length++(bD pG q.2 (bZ s ln).2.fs.length++L)) ro:=by
 refine ay hm Tryz.func93 rfl Tryz.ntmps93 rfl ?_
 refine Rn [3,36,1,9,0,4,7] fun p3=>?_
 refine Xc (v:=Vi (-1)) rfl Tryz.func82 rfl (fun w1 hw1=>by
  have h:=dU (id:=ln.id) w1 (aa (vs:=[Pt pG,Vi tr,au RE s.L.length]) (.tail _ (.head _)) rfl w1 hw1) (hw1.rowIn (fun p hp=>(.tail _ (.tail _ (List.mem_append_left _ hp))))) hE
  rw [hix] at h; exact h) ?_
 refine Rn [1,2,5,3,0,24,2,12] fun b14 hb14=>Aw (fun hc14=>?_) fun hc14=>?_
 ·refine Rn [3,1,2,6,8] ?_
  refine aw rfl rfl (fun w' hm'=>?_)
  rw [show (bZ s ln)=(32,s) from by unfold bZ; rw [hl]]
  exact ⟨rfl,(RE,RF),⟨hE,hF⟩,hm'.less Ls (fun _ h=>h)⟩
 omega
theorem spdP_f {f:FSt} {n:Int} (h:(bK f n).1≠0):(bK f n).2=f:=by
 unfold bK at h ⊢
 split
 ·rfl
 rename_i h1
 rw [if_neg h1] at h
 split
 ·rfl
 rename_i h2
 rw [if_neg h2] at h; exact absurd rfl h
theorem r_Pay1 {w:World} {L:List (Nat×Obj)} {ro:List av} {pR pG:Nat} {tr:Int} {RF:ak} {s:SG} (hF:ag 5 RF s.fs.length (ax cD s.fs)) (hok:SGok s) (htr:s.tol=min (max tr 0) 1000000) {b c:Nat} {cs:List Value} (hE:ag 10 (some (b,cs,c)) s.L.length (ax du s.L)) (hm:Mem w ((Bk pR [Pt pG,Vi tr,au (some (b,cs,c)) s.L.length] 91)::(Bk b cs 144)::(bD pG RF s.fs.length++L)) ro) {x:PK.Ord} {first:Int} {k:Nat} (hk:k < s.L.length) (he:s.L[k]=(x,first)) (ln:PK.Ord) (hix:sU s.L ln.id=k) (hl:cq s.L ln.id=some (x,first)) (hset:∀ y:EN,y.1.id=ln.id→dl s.L y=s.L.set k y) (hln:(1≤ln.copies∧ln.copies≤9999)∧0≤ln.price∧ln.price≤999999999) :
  Calls Tryz.prog 93 #[Pt pR,.agg ln.cells.toArray] w fun e w'=>e=.returned (Vi (bZ s ln).1)∧∃ q:ak×ak,(ag 10 q.1 (bZ s ln).2.L.length (ax du (bZ s ln).2.L)∧ag 5 q.2 (bZ s ln).2.fs.length (ax cD (bZ s ln).2.fs))∧Mem w' (dG pR pG tr q.1 (bZ s ln).2.L.length++(bD pG q.2 (bZ s ln).2.fs.length++L)) ro:=by
 obtain ⟨hx,hfi1,hfi2⟩:=hok.at hl
 have hxid:x.id=ln.id:=(bL hl).2
 have hmx:=cV hE
 unfold maxLen at hmx
 have hmf:=cV hF
 unfold maxLen at hmf
 obtain ⟨r1,r2,r3,r4,r5⟩:=id hE
 dsimp only at r2 r3 r4
 have htol:=hok.tol
 obtain ⟨⟨o1,o2⟩,⟨o3,o4⟩,⟨o5,o6⟩,⟨o7,o8⟩,⟨o9,o10⟩,⟨o11,o12⟩,⟨o13,o14⟩,⟨o15,o16⟩,o17,o18⟩:=show dm x from hx
 obtain ⟨⟨c1,c2⟩,q1,q2⟩:=id hln
 obtain ⟨⟨k1,k2⟩,⟨k3,k4⟩,_⟩:=oP (c:=ln.copies) (p:=x.price) (q:=ln.price) ⟨c1,c2⟩ ⟨o1,o2⟩ ⟨q1,q2⟩
 refine ay hm Tryz.func93 rfl Tryz.ntmps93 rfl ?_
 refine Rn [3,36,1,9,0,152,7] fun p3=>?_
 refine Xc (v:=Vi ((k:Nat):Int)) rfl Tryz.func82 rfl (fun w1 hw1=>by
  have h:=dU (id:=ln.id) w1 (aa (vs:=[Pt pG,Vi tr,au (some (b,cs,c)) s.L.length]) (.tail _ (.head _)) rfl w1 hw1) (hw1.rowIn (fun p hp=>by rw [show p=_ from List.mem_singleton.1 hp]; exact (.tail _ (.tail _ (.head _))))) hE
  rw [hix] at h; exact h) ?_
 refine Rn [1,2,5,3,0,24,2,12] fun b14 hb14=>Aw (fun hc14=>?_) fun hc14=>?_
 ·omega
 refine Rn [23,0,11,152,7,0,46,152] ?_
 refine Xv rfl (bj (vs:=x.cells) f4 rfl cm rfl (fun i hi=>aa (vs:=cs) (.tail _ (.tail _ (.head _))) (cg bf hE hk (j:=i) (by rw [he,show du (x,first)=x.cells++[Vi first] from rfl,List.getElem?_append_left hi]; exact List.getElem?_eq_getElem hi)))) ?_
 refine Rn [28,32,2,5,3,152,7,24,2,12] fun p6 b25 hb25=>Aw (fun hc25=>?_) fun hc25=>?_
 ·refine Rn [3,1,2,6,8] ?_
  refine aw rfl rfl (fun w' hm'=>?_)
  have hck:bA s.tol ln (some (x,first))=50:=by unfold bA; dsimp only; rw [if_pos (by omega)]
  rw [show (bZ s ln)=(50,s) from by unfold bZ; rw [hl]; dsimp only; rw [if_pos (by rw [hck]; decide),hck]]
  exact ⟨rfl,((some (b,cs,c)),RF),⟨hE,hF⟩,hm'.less (Ls.trans Ls) (fun _ h=>h)⟩
 refine Rn [16,5,3,152] ?_
 refine Xv rfl (bj (vs:=[Vi x.src,Vi x.num]) l9 rfl iL rfl (fun j hj=>aa (vs:=x.cells) (.head _) (by match j,hj with | 0,_=>rfl | 1,_=>rfl))) ?_
 refine Rn [152] ?_
 refine Xv rfl (bj (vs:=[Vi ln.src,Vi ln.num]) l9 rfl iL rfl (fun j hj=>aa (vs:=ln.cells) (.tail _ (.head _)) (by match j,hj with | 0,_=>rfl | 1,_=>rfl))) (Xb rfl (ui Zk rfl rfl (fun w1=>xn w1 x.src x.num ln.src ln.num)) fun b30 hb30=>?_)
 refine Rn [2,10] (Aw (fun hc30=>?_) fun hc30=>?_)
 ·simp only [hb30,Qz,ne_eq] at hc30
  refine Rn [3,1,2,6,8] ?_
  refine aw rfl rfl (fun w' hm'=>?_)
  have hck:bA s.tol ln (some (x,first))=1:=by unfold bA; dsimp only; rw [if_neg (by omega),if_pos (by simpa using hc30)]
  rw [show (bZ s ln)=(1,s) from by unfold bZ; rw [hl]; dsimp only; rw [if_pos (by rw [hck]; decide),hck]]
  exact ⟨rfl,((some (b,cs,c)),RF),⟨hE,hF⟩,hm'.less (Ls.trans Ls) (fun _ h=>h)⟩
 simp only [hb30,Qz,ne_eq] at hc30
 refine Rn [16,5,3,152,7,152,7,152,7,54,60,2,12] fun b38 hb38=>Aw (fun hc38=>?_) fun hc38=>?_
 ·refine Rn [3,1,2,6,8] ?_
  refine aw rfl rfl (fun w' hm'=>?_)
  have hck:bA s.tol ln (some (x,first))=50:=by unfold bA; dsimp only; rw [if_neg (by omega),if_neg (by simpa using hc30),if_pos (by omega)]
  rw [show (bZ s ln)=(50,s) from by unfold bZ; rw [hl]; dsimp only; rw [if_pos (by rw [hck]; decide),hck]]
  exact ⟨rfl,((some (b,cs,c)),RF),⟨hE,hF⟩,hm'.less (Ls.trans Ls) (fun _ h=>h)⟩
 refine Rn [23,0,152,7,152,7] ?_
 refine Xh rfl Tryz.func87 rfl (fun w1 hw1=>r_near htr ln.price x.price w1 (aa (vs:=[Pt pG,Vi tr,au (some (b,cs,c)) s.L.length]) (.tail _ (.tail _ (.head _))) rfl w1 hw1) ⟨q1,q2⟩ ⟨o1,o2⟩) fun b44 hb44=>?_
 refine Rn [1,2,5,3,0,43,2,10] fun b46 hb46=>Aw (fun hc46=>?_) fun hc46=>?_
 ·simp only [hb46,hb44,Qz,ne_eq] at hc46
  refine Rn [3,1,2,6,8] ?_
  refine aw rfl rfl (fun w' hm'=>?_)
  have hck:bA s.tol ln (some (x,first))=61:=by unfold bA; dsimp only; rw [if_neg (by omega),if_neg (by simpa using hc30),if_neg (by omega),if_pos (by simpa using hc46)]
  rw [show (bZ s ln)=(61,s) from by unfold bZ; rw [hl]; dsimp only; rw [if_pos (by rw [hck]; decide),hck]]
  exact ⟨rfl,((some (b,cs,c)),RF),⟨hE,hF⟩,hm'.less (Ls.trans Ls) (fun _ h=>h)⟩
 simp only [hb46,hb44,Qz,ne_eq] at hc46
 refine Rn [16,5] ?_
 refine bc 11 ?_
 refine Rn [0,11,152,7,152,7,152,7,152,7] ?_
 refine Xv rfl (cY rfl rfl rfl Zo) ?_
 refine aI (τ:=ak) (v:=Vi (ap aS s.fs x.fund (ln.copies*x.price)).1) (fun q=>ag 5 q (ap aS s.fs x.fund (ln.copies*x.price)).2.length (ax cD (ap aS s.fs x.fund (ln.copies*x.price)).2)) (fun q=>(Bk p6 x.cells 25)::(Bk p3 ln.cells 25)::(Bk pR [Pt pG,Vi tr,au (some (b,cs,c)) s.L.length] 91)::(Bk b cs 144)::(bD pG q (ap aS s.fs x.fund (ln.copies*x.price)).2.length++L)) rfl rfl Tryz.func90 Zk rfl (fun w1 hw1=>r_rel (l1:=[(Bk p6 x.cells 25),(Bk p3 ln.cells 25),(Bk pR [Pt pG,Vi tr,au (some (b,cs,c)) s.L.length] 91),(Bk b cs 144)]) (L:=L) (RF:=RF) (fs:=s.fs) hw1 hF x.fund (ln.copies*x.price) hok.fs) fun q58 hq58=>?_
 have hfk1:∀ f∈(ap aS s.fs x.fund (ln.copies*x.price)).2,aR f.s:=fh (R:=aS) (fun f n=>mD) hok.fs
 refine Rn [1,2,5,3,0,37,2,12] fun b60 hb60=>Aw (fun hc60=>?_) fun hc60=>?_
 ·refine Rn [3,0,1,2,6,8] ?_
  have hck:¬bA s.tol ln (some (x,first))≠0:=fun q=>q (by unfold bA; dsimp only; rw [if_neg (by omega),if_neg (by simpa using hc30),if_neg (by omega),if_neg (by simpa using hc46)])
  refine aw rfl rfl (fun w' hm'=>?_)
  have hf1:(ap aS s.fs x.fund (ln.copies*x.price)).2=s.fs:=im sr (by simpa using hc60)
  rw [hf1] at hq58 hm'
  rw [show (bZ s ln)=((ap aS s.fs x.fund (ln.copies*x.price)).1,s) from by unfold bZ; rw [hl]; dsimp only; rw [if_neg hck,if_pos (by simpa using hc60)]]
  exact ⟨rfl,((some (b,cs,c)),q58),⟨hE,hq58⟩,hm'.less (Ls.trans Ls) (fun _ h=>h)⟩
 refine Rn [16,5] ?_
 refine bc 11 ?_
 refine Rn [0,11,152,7,152,7,152,7,152,7] ?_
 refine Xv rfl (cY rfl rfl rfl Zo) ?_
 refine aI (τ:=ak) (v:=Vi (ap bK (ap aS s.fs x.fund (ln.copies*x.price)).2 x.fund (ln.copies*ln.price)).1) (fun q=>ag 5 q (ap bK (ap aS s.fs x.fund (ln.copies*x.price)).2 x.fund (ln.copies*ln.price)).2.length (ax cD (ap bK (ap aS s.fs x.fund (ln.copies*x.price)).2 x.fund (ln.copies*ln.price)).2)) (fun q=>(Bk p6 x.cells 25)::(Bk p3 ln.cells 25)::(Bk pR [Pt pG,Vi tr,au (some (b,cs,c)) s.L.length] 91)::(Bk b cs 144)::(bD pG q (ap bK (ap aS s.fs x.fund (ln.copies*x.price)).2 x.fund (ln.copies*ln.price)).2.length++L)) rfl rfl Tryz.func145 Zk rfl (fun w1 hw1=>r_spd (l1:=[(Bk p6 x.cells 25),(Bk p3 ln.cells 25),(Bk pR [Pt pG,Vi tr,au (some (b,cs,c)) s.L.length] 91),(Bk b cs 144)]) (L:=L) (RF:=q58) (fs:=(ap aS s.fs x.fund (ln.copies*x.price)).2) hw1 hq58 x.fund (ln.copies*ln.price) hfk1) fun q73 hq73=>?_
 refine Rn [1,2,5,3,0,37,2,12] fun b75 hb75=>Aw (fun hc75=>?_) fun hc75=>?_
 ·refine Rn [3,0,1,2,6,8] ?_
  have hck:¬bA s.tol ln (some (x,first))≠0:=fun q=>q (by unfold bA; dsimp only; rw [if_neg (by omega),if_neg (by simpa using hc30),if_neg (by omega),if_neg (by simpa using hc46)])
  refine aw rfl rfl (fun w' hm'=>?_)
  have hf1:(ap bK (ap aS s.fs x.fund (ln.copies*x.price)).2 x.fund (ln.copies*ln.price)).2=(ap aS s.fs x.fund (ln.copies*x.price)).2:=im spdP_f (by simpa using hc75)
  rw [hf1] at hq73 hm'
  rw [show (bZ s ln)=((ap bK (ap aS s.fs x.fund (ln.copies*x.price)).2 x.fund (ln.copies*ln.price)).1,⟨(ap aS s.fs x.fund (ln.copies*x.price)).2,s.tol,s.L⟩) from by unfold bZ; rw [hl]; dsimp only; rw [if_neg hck,if_neg (by simpa using hc60),if_pos (by simpa using hc75)]]
  exact ⟨rfl,((some (b,cs,c)),q73),⟨hE,hq73⟩,hm'.less (Ls.trans Ls) (fun _ h=>h)⟩
 refine Rn [16,5] ?_
 refine bc 13 ?_
 refine Rn [0,11,152,7,0,152,7,152,7,26,46,152,152] ?_
 refine aG (cs:=cs) (off:=0+k*10+7) (e:=144) (l2:=bD pG q73 (ap bK (ap aS s.fs x.fund (ln.copies*x.price)).2 x.fund (ln.copies*ln.price)).2.length++L) [(Bk p6 x.cells 25),(Bk p3 ln.cells 25),(Bk pR [Pt pG,Vi tr,au (some (b,cs,c)) s.L.length] 91)] rfl rfl rfl rfl cT rfl (by omega) ?_
 refine Rn [9,1,2,6] ?_
 have hck:¬bA s.tol ln (some (x,first))≠0:=fun q=>q (by unfold bA; dsimp only; rw [if_neg (by omega),if_neg (by simpa using hc30),if_neg (by omega),if_neg (by simpa using hc46)])
 refine aw rfl rfl (fun w' hm'=>?_)
 rw [show (bZ s ln)=(0,⟨(ap bK (ap aS s.fs x.fund (ln.copies*x.price)).2 x.fund (ln.copies*ln.price)).2,s.tol,s.L.set k ({ x with paid:=x.paid+ln.copies },first)⟩) from by unfold bZ; rw [hl]; dsimp only; rw [if_neg hck,if_neg (by simpa using hc60),if_neg (by simpa using hc75)]; rw [hset ({ x with paid:=x.paid+ln.copies },first) hxid]]
 exact ⟨rfl,(some (b,(cs.take (0+k*10+7)++(Vi (x.paid+ln.copies)).cells.toList++cs.drop (0+k*10+7+1)),c),q73),⟨by rw [List.length_set]; exact (j6 hE hk ({ x with paid:=x.paid+ln.copies },first) (j:=7) (m:=1) (vs:=(Vi (x.paid+ln.copies)).cells.toList) rfl (by decide) (by rw [he]; rfl)),hq73⟩,(hm'.less (Ls.trans Ls) (fun _ h=>h)).to (by rw [List.length_set]; rfl)⟩
theorem r_Pay {w:World} {L:List (Nat×Obj)} {ro:List av} {pR pG:Nat} {tr:Int} {RF:ak} {s:SG} (hF:ag 5 RF s.fs.length (ax cD s.fs)) (hok:SGok s) (htr:s.tol=min (max tr 0) 1000000) {RE:ak} (hE:ag 10 RE s.L.length (ax du s.L)) (hm:Mem w (dG pR pG tr RE s.L.length++(bD pG RF s.fs.length++L)) ro) (ln:PK.Ord) (hln:(1≤ln.copies∧ln.copies≤9999)∧0≤ln.price∧ln.price≤999999999):Calls Tryz.prog 93 #[Pt pR,.agg ln.cells.toArray] w fun e w'=>e=.returned (Vi (bZ s ln).1)∧∃ q:ak×ak,(ag 10 q.1 (bZ s ln).2.L.length (ax du (bZ s ln).2.L)∧ag 5 q.2 (bZ s ln).2.fs.length (ax cD (bZ s ln).2.fs))∧Mem w' (dG pR pG tr q.1 (bZ s ln).2.L.length++(bD pG q.2 (bZ s ln).2.fs.length++L)) ro:=by
 cases hl:cq s.L ln.id with
 | none=>exact r_Pay0 hF hok htr hE hm ln (gZ hl) hl hln
 | some z =>
  obtain ⟨x,first⟩:=z
  obtain ⟨k,hk,h1,h2,_,h4⟩:=gY hl
  obtain ⟨b,cs,c,rfl⟩:=bN bf (by decide) hE hk
  exact r_Pay1 hF hok htr hE hm hk h2 ln h1 hl h4 hln
open Go.RowKit Go.PK
theorem r_InvP {w:World} {L:List (Nat×Obj)} {ro:List av} {pR pG:Nat} {tr:Int} {RF:ak} {s:SG} (hF:ag 5 RF s.fs.length (ax cD s.fs)) (hok:SGok s) (htr:s.tol=min (max tr 0) 1000000) {RE:ak} (hE:ag 10 RE s.L.length (ax du s.L)) (hm:Mem w (dG pR pG tr RE s.L.length++(bD pG RF s.fs.length++L)) ro) (t:ByteArray) (hs:t.size≤200000000) (h0:(aK t).2.2≠0) :
  Calls Tryz.prog 36 #[Pt pR,.string t] w fun e w'=>e=.returned (Vi (aY s (aM t).1 (aM t).2).1)∧∃ q:ak×ak,(ag 10 q.1 (aY s (aM t).1 (aM t).2).2.L.length (ax du (aY s (aM t).1 (aM t).2).2.L)∧ag 5 q.2 (aY s (aM t).1 (aM t).2).2.fs.length (ax cD (aY s (aM t).1 (aM t).2).2.fs))∧Mem w' (dG pR pG tr q.1 (aY s (aM t).1 (aM t).2).2.L.length++(bD pG q.2 (aY s (aM t).1 (aM t).2).2.fs.length++L)) ro:=by
 refine ay hm Tryz.func36 rfl Tryz.ntmps36 rfl ?_
 refine Rn [3,1,9,0] ?_
 refine Xd (R:=fun v wa wb=>∃ A c,v=.tuple #[.slice A (aK t).1.length c,Vi (aK t).2.1,Vi (aK t).2.2]∧ab aZ (fun b=>wa.heap.size≤b) wb (.slice A (aK t).1.length c) (aK t).1) rfl Tryz.func85 rfl (fun w1 hw1=>(gK t w1 hs).mono fun e w2 ⟨v,h1,h2,h3⟩=>by obtain ⟨A,c,rfl,_⟩:=id h3; exact ⟨_,h1,h2,A,c,rfl,h3⟩) fun v16 wa16 wb16 hm16 hl16 hR16=>?_
 obtain ⟨A16,c16,rfl,hp16⟩:=hR16
 refine Rn [0,20,20,20,1,1,1,2,5,3,0,37,2,10] fun b21 hb21=>Aw (fun hc21=>?_) fun hc21=>?_
 ·refine Rn [3,0,1,2,6,8] ?_
  refine aw rfl rfl (fun w' hm'=>?_)
  rw [show (aY s (aM t).1 (aM t).2)=((aK t).2.2,s) from by rw [show aM t=([],(aK t).2.2) from if_pos h0]; exact if_pos h0]
  exact ⟨rfl,(RE,RF),⟨hE,hF⟩,hm'.less (.refl _) (fun _ h=>.tail _ h)⟩
 exfalso
 rw [hb21] at hc21
 exact absurd (by simpa using hc21) h0
theorem r_InvE {w:World} {L:List (Nat×Obj)} {ro:List av} {pR pG:Nat} {tr:Int} {RF:ak} {s:SG} (hF:ag 5 RF s.fs.length (ax cD s.fs)) (hok:SGok s) (htr:s.tol=min (max tr 0) 1000000) {RE:ak} (hE:ag 10 RE s.L.length (ax du s.L)) (hm:Mem w (dG pR pG tr RE s.L.length++(bD pG RF s.fs.length++L)) ro) (t:ByteArray) (hs:t.size≤200000000) {ls:List PK.Ord} {c:Int} (h0:(aK t).2.2=0) (hrd:va (aK t).1=(ls,c)) (hc0:c≠0) :
  Calls Tryz.prog 36 #[Pt pR,.string t] w fun e w'=>e=.returned (Vi (aY s (aM t).1 (aM t).2).1)∧∃ q:ak×ak,(ag 10 q.1 (aY s (aM t).1 (aM t).2).2.L.length (ax du (aY s (aM t).1 (aM t).2).2.L)∧ag 5 q.2 (aY s (aM t).1 (aM t).2).2.fs.length (ax cD (aY s (aM t).1 (aM t).2).2.fs))∧Mem w' (dG pR pG tr q.1 (aY s (aM t).1 (aM t).2).2.L.length++(bD pG q.2 (aY s (aM t).1 (aM t).2).2.fs.length++L)) ro:=by
 refine ay hm Tryz.func36 rfl Tryz.ntmps36 rfl ?_
 refine Rn [3,1,9,0] ?_
 refine Xd (R:=fun v wa wb=>∃ A c,v=.tuple #[.slice A (aK t).1.length c,Vi (aK t).2.1,Vi (aK t).2.2]∧ab aZ (fun b=>wa.heap.size≤b) wb (.slice A (aK t).1.length c) (aK t).1) rfl Tryz.func85 rfl (fun w1 hw1=>(gK t w1 hs).mono fun e w2 ⟨v,h1,h2,h3⟩=>by obtain ⟨A,c,rfl,_⟩:=id h3; exact ⟨_,h1,h2,A,c,rfl,h3⟩) fun v16 wa16 wb16 hm16 hl16 hR16=>?_
 obtain ⟨A16,c16,rfl,hp16⟩:=hR16
 refine Rn [0,20,20,20,1,1,1,2,5,3,0,37,2,10] fun b21 hb21=>Aw (fun hc21=>?_) fun hc21=>?_
 ·exfalso
  rw [hb21] at hc21
  exact absurd h0 (by simpa using hc21)
 refine Rn [23,0] ?_
 refine Xd (R:=fun v wa wb=>∃ A1 c1,v=.tuple #[.slice A1 ls.length c1,Vi c]∧ab dE (fun b=>wa.heap.size≤b) wb (.slice A1 ls.length c1) ls) rfl Tryz.func91 rfl (fun w1 hw1=>(zx (l:=(aK t).1) w1 (bY hp16 hw1 Zh hm16)).mono fun e w2 ⟨q,h1,h2,h3⟩=>by rw [hrd] at h1 h3; obtain ⟨A1,c1,rfl,_⟩:=id h3; exact ⟨_,h1,h2,A1,c1,rfl,h3⟩) fun v25 wa25 wb25 hm25 hl25 hR25=>?_
 obtain ⟨A25,c25,rfl,hr25⟩:=hR25
 refine Rn [0,20,20,1,1,2,5,3,0,37,2,10] fun b29 hb29=>Aw (fun hc29=>?_) fun hc29=>?_
 ·refine Rn [3,0,1,2,6,8] ?_
  refine aw rfl rfl (fun w' hm'=>?_)
  rw [show (aY s (aM t).1 (aM t).2)=(c,s) from by rw [show aM t=(ls,c) from (if_neg (fun q=>q h0)).trans ((oJ _).trans hrd)]; show aY s ls c=_; exact if_pos hc0]
  exact ⟨rfl,(RE,RF),⟨hE,hF⟩,hm'.less (.refl _) (fun _ h=>.tail _ (.tail _ h))⟩
 exfalso
 rw [hb29] at hc29
 exact absurd (by simpa using hc29) hc0
theorem yg:(Tryz.prog.info? 144).map (fun j=>(j.zero,j.size,j.bytes))=some (some (.agg #[Vi 0,Vi 0,Vi 0,Vi 0,Vi 0,Vi 0,Vi 0,Vi 0,Vi 0,Vi 0]),10,80):=by kernel_rfl
theorem r_InvO {w:World} {L:List (Nat×Obj)} {ro:List av} {pR pG:Nat} {tr:Int} {RF:ak} {s:SG} (hF:ag 5 RF s.fs.length (ax cD s.fs)) (hok:SGok s) (htr:s.tol=min (max tr 0) 1000000) {RE:ak} (hE:ag 10 RE s.L.length (ax du s.L)) (hm:Mem w (dG pR pG tr RE s.L.length++(bD pG RF s.fs.length++L)) ro) (t:ByteArray) (hs:t.size≤200000000) {ls:List PK.Ord} (h0:(aK t).2.2=0) (hrd:va (aK t).1=(ls,0)) (hop:opF s.fs) (hlen:s.L.length≤4000) :
  Calls Tryz.prog 36 #[Pt pR,.string t] w fun e w'=>e=.returned (Vi (aY s (aM t).1 (aM t).2).1)∧∃ q:ak×ak,(ag 10 q.1 (aY s (aM t).1 (aM t).2).2.L.length (ax du (aY s (aM t).1 (aM t).2).2.L)∧ag 5 q.2 (aY s (aM t).1 (aM t).2).2.fs.length (ax cD (aY s (aM t).1 (aM t).2).2.fs))∧Mem w' (dG pR pG tr q.1 (aY s (aM t).1 (aM t).2).2.L.length++(bD pG q.2 (aY s (aM t).1 (aM t).2).2.fs.length++L)) ro:=by
 have hlns:∀ ln∈ls,((1≤ln.copies∧ln.copies≤9999)∧0≤ln.price)∧ln.price≤999999999∧1≤ln.id∧ln.id≤999999999:=fun ln h=>kw (s:=t) ln (by unfold aM; rw [if_neg (fun q=>q h0),oJ,hrd]; exact h)
 have hlls:ls.length≤999:=by have:=uH (s:=t); unfold aM at this; rw [if_neg (fun q=>q h0),oJ,hrd] at this; exact this
 refine ay hm Tryz.func36 rfl Tryz.ntmps36 rfl ?_
 refine Rn [3,1,9,0] ?_
 refine Xd (R:=fun v wa wb=>∃ A c,v=.tuple #[.slice A (aK t).1.length c,Vi (aK t).2.1,Vi (aK t).2.2]∧ab aZ (fun b=>wa.heap.size≤b) wb (.slice A (aK t).1.length c) (aK t).1) rfl Tryz.func85 rfl (fun w1 hw1=>(gK t w1 hs).mono fun e w2 ⟨v,h1,h2,h3⟩=>by obtain ⟨A,c,rfl,_⟩:=id h3; exact ⟨_,h1,h2,A,c,rfl,h3⟩) fun v16 wa16 wb16 hm16 hl16 hR16=>?_
 obtain ⟨A16,c16,rfl,hp16⟩:=hR16
 refine Rn [0,20,20,20,1,1,1,2,5,3,0,37,2,10] fun b21 hb21=>Aw (fun hc21=>?_) fun hc21=>?_
 ·exfalso
  rw [hb21] at hc21
  exact absurd h0 (by simpa using hc21)
 refine Rn [23,0] ?_
 refine Xd (R:=fun v wa wb=>∃ A1 c1,v=.tuple #[.slice A1 ls.length c1,Vi 0]∧ab dE (fun b=>wa.heap.size≤b) wb (.slice A1 ls.length c1) ls) rfl Tryz.func91 rfl (fun w1 hw1=>(zx (l:=(aK t).1) w1 (bY hp16 hw1 Zh hm16)).mono fun e w2 ⟨q,h1,h2,h3⟩=>by rw [hrd] at h1 h3; obtain ⟨A1,c1,rfl,_⟩:=id h3; exact ⟨_,h1,h2,A1,c1,rfl,h3⟩) fun v25 wa25 wb25 hm25 hl25 hR25=>?_
 obtain ⟨A25,c25,rfl,hr25⟩:=hR25
 refine Rn [0,20,20,1,1,2,5,3,0,37,2,10] fun b29 hb29=>Aw (fun hc29=>?_) fun hc29=>?_
 ·exfalso
  rw [hb29] at hc29
  revert hc29; simp
 obtain ⟨E,hEs⟩:∃ E:ByteArray,(⟨(cF (er s.fs)).toArray⟩:ByteArray)=E:=⟨_,rfl⟩
 refine Rn [23,0,11,4,7] ?_
 refine Xc (v:=Value.string E) rfl Tryz.func76 rfl (fun w1 hw1=>by
  have h:=wn (pG:=pG) (R:=RF) w1 (aa (vs:=[au RF s.fs.length]) (List.mem_append_right _ (.head _)) rfl w1 hw1) (hw1.rowIn (fun p hp=>List.mem_append_right _ (.tail _ (List.mem_append_left _ hp)))) hF (by have:=hop.len; omega) hop.fg
  rw [hEs] at h; exact h) ?_
 refine fq (τ:=Nat×ak) (fun z=>.tuple #[Pt z.1,Vi 0]) (fun z=>ag 5 z.2 s.fs.length (ax cD s.fs)) (fun z=>([]++(bD z.1 z.2 s.fs.length++[]))++(dG pR pG tr RE s.L.length++(bD pG RF s.fs.length++L))) rfl rfl rfl Tryz.func92 Zk rfl (fun w1 hw1=>by
  have h:=r_OpenF (fs:=s.fs) w1 hop
  rw [hEs] at h
  exact h.mono fun e w2 ⟨z,h1,h2,h3⟩=>⟨z,h1,h3.b,h2,hw1.join2 h3⟩) ?_
 rintro ⟨pN,RN⟩ hRN
 dsimp only at hRN
 refine Rn [0,20,20,1,1,2,5,3,0,37,2,10] fun b41 hb41=>Aw (fun hc41=>?_) fun hc41=>?_
 ·exfalso
  rw [hb41] at hc41
  revert hc41; simp
 refine dY (own':=bD pN RN s.fs.length++(dG pR pG tr RE s.L.length++(bD pG RF s.fs.length++L))) (ro':=(wb25,a7 (dG pR pG tr RE s.L.length++(bD pG RF s.fs.length++L)))::ro) (fun w1 h=>(h.to (by simp)).less (.refl _) (fun s hs=>by rcases List.mem_cons.1 hs with rfl | hs <;> repeat (first | exact hs | exact List.Mem.head _ | apply List.Mem.tail))) ?_
 refine Rn [16,5] ?_
 refine cL (bD pN RN s.fs.length++(dG pR pG tr RE s.L.length++(bD pG RF s.fs.length++L))) 14 (.flt 0 (.flt 1 (.flt 2 (.flt 3 (.flt 4 (.flt 6 (.flt 7 (.flt 8 (.flt 9 (.gr 5 (.gr 10 (.flt 11 (.gr 12 (.flt 13 .done) .nil)) .nil) .nil)))))))))) (.refl _) Zk Zk ?_
 refine Rn [44,44,65,41,49,44,65,41,49,42] ?_
 refine kF rfl rfl rfl mW oa ?_
 intro p48
 refine Rn [13,58,42] ?_
 refine gh (e:=144) (m:=s.L.length) (c2:=tA RE) (ao:=jN RE) [] (l2:=bD pN RN s.fs.length++(dG pR pG tr RE s.L.length++(bD pG RF s.fs.length++L))) (some (p48,[],0)) (len:=0) (xs:=[]) (news:=ax du s.L) rfl rfl rfl rfl rfl ⟨rfl,Nat.le_refl _,Nat.zero_le _,rfl,rfl⟩ mW yg rfl (l7 _) (fun ha=>l6 bf (by decide) hE ha) (fun w1 hw1 a ha j u hu=>lj (e:=144) bf hE hw1 (fun p hp=>by simp [hp,dG]) ha hu) (nE bf _) Zx (by omega) fun RX0 hRX0=>?_
 rw [Nat.zero_add] at hRX0 ⊢
 rw [List.nil_append] at hRX0
 refine Ze ?_
 refine dK (List.sublist_append_right _ _) ?_
 refine dq (v:=Value.agg [Pt pN,Vi tr,au RX0 s.L.length].toArray) rfl rfl (aH (cs:=[Pt pN,Vi tr,au RX0 s.L.length]) (places:=[(0,1),(1,1),(2,1)]) u91 zr91 Zk rfl rfl) ?_
 refine Rn [42,36,13] fun p55=>?_
 refine dK (.cons _ (List.sublist_append_right _ _)) ?_
 refine Rn [55,56,2,5,5] ?_
 refine dY (own':=dG p55 pN tr RX0 s.L.length++(bD pN RN s.fs.length++(dG pR pG tr RE s.L.length++(bD pG RF s.fs.length++L)))) (ro':=(wb25,a7 (dG pR pG tr RE s.L.length++(bD pG RF s.fs.length++L)))::ro) (fun w1 h=>h.to (by simp [dG] <;> rfl)) ?_
 refine Rn [18,1,2,14] ?_
 refine aO (σ:=Nat×ak×ak×SG) (fun z=>z.1≤ls.length∧ag 10 z.2.1 z.2.2.2.L.length (ax du z.2.2.2.L)∧ag 5 z.2.2.1 z.2.2.2.fs.length (ax cD z.2.2.2.fs)∧SGok z.2.2.2∧z.2.2.2.tol=s.tol∧iY s.tol s.fs s.L ls=iY s.tol z.2.2.2.fs z.2.2.2.L (ls.drop z.1)) (fun z=>[(0,Pt pR),(8,Value.slice A25 ls.length c25),(10,Pt pN),(12,Pt p55),(13,Vi (z.1:Nat))]) (fun z=>dG p55 pN tr z.2.1 z.2.2.2.L.length++(bD pN z.2.2.1 z.2.2.2.fs.length++(dG pR pG tr RE s.L.length++(bD pG RF s.fs.length++L)))) (fun z=>(wb25,a7 (dG pR pG tr RE s.L.length++(bD pG RF s.fs.length++L)))::ro) (fun z=>ls.length - z.1) ((0,RX0,RN,s)) (⟨Nat.zero_le _,hRX0,hRN,hok,rfl,rfl⟩) (aC Zu (fun _ h=>h)) ?_
 rintro ⟨k,RX,RY,st⟩ ⟨hk,hEk,hFk,hokk,htk,hgo⟩
 refine Rn [144] ?_
 dsimp only at hk hEk hFk hokk htk hgo
 refine Rn [5,3,0,0,31,24,2,12] fun b59 hb59=>Aw (fun hc59=>?_) fun hc59=>?_
 ·have hkl:k < ls.length:=by omega
  obtain ⟨lb,lo,hlA,hlD,hlc,hlok⟩:=jW hr25 (k:=k) hkl
  obtain ⟨⟨⟨c1,c2⟩,p1⟩,p2,i1,i2⟩:=hlns ls[k] (List.getElem_mem hkl)
  have hlsk:ls[k]∈ls:=List.getElem_mem hkl
  obtain ⟨ln,hln⟩:∃ q,ls[k]=q:=⟨_,rfl⟩
  rw [hln] at c1 c2 p1 p2 i1 i2 hlsk
  have hstep:iY s.tol s.fs s.L ls=_:=(hgo.trans (by rw [(xX hkl).trans (congrArg (fun q=>q::ls.drop (k+1)) hln),← htk])).trans (zp (s:=st) (ln:=ln) (ls:=ls.drop (k+1)))
  refine Rn [16,5,14,3,0,0,0] ?_
  refine Xv rfl (ae qx cm (congrArg (fun A=>some (Value.slice A ls.length c25)) hlA) rfl Zo rfl) (Xv rfl (bj (vs:=ln.cells) f4 rfl cm rfl (fun i hi=>an (.head _) (fun q hq e=>by have:=hm25.lt hq; omega) (by rw [← hln]; exact hlc i hi))) ?_)
  refine aI (τ:=ak×ak) (v:=Vi (bZ st ln).1) (fun q=>ag 10 q.1 (bZ st ln).2.L.length (ax du (bZ st ln).2.L)∧ag 5 q.2 (bZ st ln).2.fs.length (ax cD (bZ st ln).2.fs)) (fun q=>dG p55 pN tr q.1 (bZ st ln).2.L.length++(bD pN q.2 (bZ st ln).2.fs.length++(dG pR pG tr RE s.L.length++(bD pG RF s.fs.length++L)))) rfl rfl Tryz.func93 Zk rfl (fun w1 hw1=>r_Pay (L:=(dG pR pG tr RE s.L.length++(bD pG RF s.fs.length++L))) hFk hokk (htk.trans htr) hEk hw1 ln ⟨⟨c1,c2⟩,p1,p2⟩) ?_
  rintro ⟨RX7,RY7⟩ ⟨hE7,hF7⟩
  dsimp only at hE7 hF7
  refine Rn [1,9,0,37,2,12] fun b69 hb69=>Aw (fun hc69=>?_) fun hc69=>?_
  ·refine Rn [3,0,1,2,6,15,8,8,15,8] ?_
   refine aw rfl rfl (fun w' hm'=>?_)
   have hG:(iY s.tol s.fs s.L ls).1=(bZ st ln).1:=by rw [hstep,if_pos hc69]
   rw [show (aY s (aM t).1 (aM t).2)=((bZ st ln).1,s) from by rw [show aM t=(ls,0) from (if_neg (fun q=>q h0)).trans ((oJ _).trans hrd)]; show aY s ls 0=_; unfold aY; rw [if_neg (by decide),if_pos (by rw [hG]; exact hc69),hG]]
   exact ⟨rfl,(RE,RF),⟨hE,hF⟩,hm'.less ((List.sublist_append_right _ _).trans (List.sublist_append_right _ _)) (fun _ h=>.tail _ h)⟩
  refine Rn [45,27,17,18,0,26,1,13] ?_
  rw [if_neg (fun q=>q hc69)] at hstep
  exact aJ (k+1,RX7,RY7,(bZ st ln).2) ⟨hkl,hE7,hF7,payO_ok hokk (by omega),payO_tol.trans htk,by rw [hstep,htk]⟩ (by simp only; omega) Zu (fun _ h=>h)
 obtain rfl:k=ls.length:=by omega
 rw [List.drop_length] at hgo
 have hG0:iY s.tol s.fs s.L ls=(0,st.fs,st.L):=hgo
 refine Rn [34,19,19,35,17,5] ?_
 refine bc 8 ?_
 refine Rn [0,11,4,7,0,11,39,11] ?_
 refine aG (cs:=[au RF s.fs.length]) (off:=0) (e:=122) (l2:=aA 71 RF++L) (dG p55 pN tr RX st.L.length++(bD pN RY st.fs.length++dG pR pG tr RE s.L.length)) rfl rfl rfl (by simp [bD]) sz122 rfl (by show 0+1≤1; decide) ?_
 refine Rn [9,0,0,11,4] ?_
 refine Xl rfl mW rfl (aa (vs:=[Pt pN,Vi tr,au RX st.L.length]) (List.mem_append_left _ (.head _)) rfl) ?_
 refine Rn [11,4] ?_
 refine aG (cs:=[Pt pG,Vi tr,au RE s.L.length]) (off:=2) (e:=91) (l2:=aA 144 RE++((Bk pG [au RY st.fs.length] 122)::(aA 71 RF++L))) (dG p55 pN tr RX st.L.length++bD pN RY st.fs.length) rfl rfl rfl (by simp [dG]; rfl) AW rfl (by show 2+1≤3; decide) ?_
 refine Rn [9,1,2,6] ?_
 refine aw rfl rfl (fun w' hm'=>?_)
 rw [show (aY s (aM t).1 (aM t).2)=(0,⟨st.fs,s.tol,st.L⟩) from by rw [show aM t=(ls,0) from (if_neg (fun q=>q h0)).trans ((oJ _).trans hrd)]; show aY s ls 0=_; unfold aY; rw [if_neg (by decide),hG0,if_neg (show ¬(0:Int)≠0 by decide)]]
 exact ⟨rfl,(RX,RY),⟨hEk,hFk⟩,Mem.pick (show Mem w' ((Bk p55 [Pt pN,Vi tr,au RX st.L.length] 91)::(aA 144 RX++((Bk pN [au RY st.fs.length] 122)::(aA 71 RY++((Bk pR [Pt pG,Vi tr,au RX st.L.length] 91)::(aA 144 RE++((Bk pG [au RY st.fs.length] 122)::(aA 71 RF++L)))))))) ro from (hm'.less (.refl _) (fun _ h=>.tail _ h)).to (by simp [dG,bD] <;> rfl))⟩
theorem r_Inv {w:World} {L:List (Nat×Obj)} {ro:List av} {pR pG:Nat} {tr:Int} {RF:ak} {s:SG} (hF:ag 5 RF s.fs.length (ax cD s.fs)) (hok:SGok s) (htr:s.tol=min (max tr 0) 1000000) {RE:ak} (hE:ag 10 RE s.L.length (ax du s.L)) (hm:Mem w (dG pR pG tr RE s.L.length++(bD pG RF s.fs.length++L)) ro) (t:ByteArray) (hs:t.size≤200000000) (hop:opF s.fs) (hlen:s.L.length≤4000):Calls Tryz.prog 36 #[Pt pR,.string t] w fun e w'=>e=.returned (Vi (aY s (aM t).1 (aM t).2).1)∧∃ q:ak×ak,(ag 10 q.1 (aY s (aM t).1 (aM t).2).2.L.length (ax du (aY s (aM t).1 (aM t).2).2.L)∧ag 5 q.2 (aY s (aM t).1 (aM t).2).2.fs.length (ax cD (aY s (aM t).1 (aM t).2).2.fs))∧Mem w' (dG pR pG tr q.1 (aY s (aM t).1 (aM t).2).2.L.length++(bD pG q.2 (aY s (aM t).1 (aM t).2).2.fs.length++L)) ro:=by
 by_cases h0:(aK t).2.2=0
 ·obtain ⟨ls,c,hrd⟩:∃ a c,va (aK t).1=(a,c):=⟨_,_,rfl⟩
  by_cases hc:c=0
  ·subst hc
   exact r_InvO hF hok htr hE hm t hs h0 hrd hop hlen
  exact r_InvE hF hok htr hE hm t hs h0 hrd hc
 exact r_InvP hF hok htr hE hm t hs h0
theorem r_PlaceW {w:World} {L:List (Nat×Obj)} {ro:List av} {pR pG:Nat} {tr:Int} {RF:ak} {s:SG} (hF:ag 5 RF s.fs.length (ax cD s.fs)) (hok:SGok s) (htr:s.tol=min (max tr 0) 1000000) {RE:ak} (hE:ag 10 RE s.L.length (ax du s.L)) (hm:Mem w (dG pR pG tr RE s.L.length++(bD pG RF s.fs.length++L)) ro) (y:PK.Ord) (hy:y.okA) (hw:bV y=false) :
  Calls Tryz.prog 78 #[Pt pR,.agg y.cells.toArray] w fun e w'=>e=.returned (Vi (aD s y).1)∧∃ q:ak×ak,(ag 10 q.1 (aD s y).2.L.length (ax du (aD s y).2.L)∧ag 5 q.2 (aD s y).2.fs.length (ax cD (aD s y).2.fs))∧Mem w' (dG pR pG tr q.1 (aD s y).2.L.length++(bD pG q.2 (aD s y).2.fs.length++L)) ro:=by
 refine ay hm Tryz.func78 rfl Tryz.ntmps78 rfl ?_
 refine Rn [3,36,1,9,39] fun p3=>?_
 refine Xh rfl Tryz.func128 rfl (fun w1 hw1=>eL y w1) fun b11 hb11=>?_
 refine Rn [1,2,5,3,0,43,2,10] fun b13 hb13=>Aw (fun hc13=>?_) fun hc13=>?_
 ·simp only [hb13,hb11,Qz,ne_eq] at hc13
  refine Rn [3,1,2,6,8] ?_
  refine aw rfl rfl (fun w' hm'=>?_)
  rw [show (aD s y)=(1,s) from by unfold aD; rw [if_pos hw]]
  exact ⟨rfl,(RE,RF),⟨hE,hF⟩,hm'.less Ls (fun _ h=>h)⟩
 exfalso
 rw [hb13,hb11,hw] at hc13
 revert hc13; simp
theorem r_PlaceT {w:World} {L:List (Nat×Obj)} {ro:List av} {pR pG:Nat} {tr:Int} {RF:ak} {s:SG} (hF:ag 5 RF s.fs.length (ax cD s.fs)) (hok:SGok s) (htr:s.tol=min (max tr 0) 1000000) {b c:Nat} {cs:List Value} (hE:ag 10 (some (b,cs,c)) s.L.length (ax du s.L)) (hm:Mem w ((Bk pR [Pt pG,Vi tr,au (some (b,cs,c)) s.L.length] 91)::(Bk b cs 144)::(bD pG RF s.fs.length++L)) ro) {x:PK.Ord} {first:Int} {k:Nat} (hk:k < s.L.length) (he:s.L[k]=(x,first)) (y:PK.Ord) (hy:y.okA) (hix:sU s.L y.id=k) (hl:cq s.L y.id=some (x,first)) (hw:bV y=true) :
  Calls Tryz.prog 78 #[Pt pR,.agg y.cells.toArray] w fun e w'=>e=.returned (Vi (aD s y).1)∧∃ q:ak×ak,(ag 10 q.1 (aD s y).2.L.length (ax du (aD s y).2.L)∧ag 5 q.2 (aD s y).2.fs.length (ax cD (aD s y).2.fs))∧Mem w' (dG pR pG tr q.1 (aD s y).2.L.length++(bD pG q.2 (aD s y).2.fs.length++L)) ro:=by
 refine ay hm Tryz.func78 rfl Tryz.ntmps78 rfl ?_
 refine Rn [3,36,1,9,39] fun p3=>?_
 refine Xh rfl Tryz.func128 rfl (fun w1 hw1=>eL y w1) fun b11 hb11=>?_
 refine Rn [1,2,5,3,0,43,2,10] fun b13 hb13=>Aw (fun hc13=>?_) fun hc13=>?_
 ·exfalso
  rw [hb13,hb11,hw] at hc13
  revert hc13; simp
 simp only [hb13,hb11,Qz,ne_eq] at hc13
 refine Rn [16,5,3,0,4,7] ?_
 refine Xc (v:=Vi ((k:Nat):Int)) rfl Tryz.func82 rfl (fun w1 hw1=>by
  have h:=dU (id:=y.id) w1 (aa (vs:=[Pt pG,Vi tr,au (some (b,cs,c)) s.L.length]) (.tail _ (.head _)) rfl w1 hw1) (hw1.rowIn (fun p hp=>by rw [show p=_ from List.mem_singleton.1 hp]; exact (.tail _ (.tail _ (.head _))))) hE
  rw [hix] at h; exact h) ?_
 refine Rn [57,2,12] fun b18 hb18=>Aw (fun hc18=>?_) fun hc18=>?_
 ·refine Rn [3,1,2,6,8] ?_
  refine aw rfl rfl (fun w' hm'=>?_)
  rw [show (aD s y)=(22,s) from by unfold aD; rw [if_neg (by rw [hw]; decide),if_pos (by rw [hl]; rfl)]]
  exact ⟨rfl,((some (b,cs,c)),RF),⟨hE,hF⟩,hm'.less Ls (fun _ h=>h)⟩
 omega
theorem r_PlaceF {w:World} {L:List (Nat×Obj)} {ro:List av} {pR pG:Nat} {tr:Int} {RF:ak} {s:SG} (hF:ag 5 RF s.fs.length (ax cD s.fs)) (hok:SGok s) (htr:s.tol=min (max tr 0) 1000000) {RE:ak} (hE:ag 10 RE s.L.length (ax du s.L)) (hm:Mem w (dG pR pG tr RE s.L.length++(bD pG RF s.fs.length++L)) ro) (y:PK.Ord) (hy:y.okA) (hix:sU s.L y.id=-1) (hl:cq s.L y.id=none) (hw:bV y=true) (hlen:s.L.length≤4000) :
  Calls Tryz.prog 78 #[Pt pR,.agg y.cells.toArray] w fun e w'=>e=.returned (Vi (aD s y).1)∧∃ q:ak×ak,(ag 10 q.1 (aD s y).2.L.length (ax du (aD s y).2.L)∧ag 5 q.2 (aD s y).2.fs.length (ax cD (aD s y).2.fs))∧Mem w' (dG pR pG tr q.1 (aD s y).2.L.length++(bD pG q.2 (aD s y).2.fs.length++L)) ro:=by
 have hwo:=(bB y).1 hw
 unfold ej at hwo
 obtain ⟨⟨y1,y2⟩,⟨y3,y4⟩,_,_,⟨y5,y6⟩,y7,y8⟩:=hwo
 obtain ⟨⟨k1,k2⟩,_⟩:=oP (c:=y.copies) (p:=y.price) (q:=y.price) ⟨y7,y8⟩ ⟨y5,y6⟩ ⟨y5,y6⟩
 refine ay hm Tryz.func78 rfl Tryz.ntmps78 rfl ?_
 refine Rn [3,36,1,9,39] fun p3=>?_
 refine Xh rfl Tryz.func128 rfl (fun w1 hw1=>eL y w1) fun b11 hb11=>?_
 refine Rn [1,2,5,3,0,43,2,10] fun b13 hb13=>Aw (fun hc13=>?_) fun hc13=>?_
 ·exfalso
  rw [hb13,hb11,hw] at hc13
  revert hc13; simp
 simp only [hb13,hb11,Qz,ne_eq] at hc13
 refine Rn [16,5,3,0,152,7] ?_
 refine Xc (v:=Vi (-1)) rfl Tryz.func82 rfl (fun w1 hw1=>by
  have h:=dU (id:=y.id) w1 (aa (vs:=[Pt pG,Vi tr,au RE s.L.length]) (.tail _ (.head _)) rfl w1 hw1) (hw1.rowIn (fun p hp=>(.tail _ (.tail _ (List.mem_append_left _ hp))))) hE
  rw [hix] at h; exact h) ?_
 refine Rn [57,2,12] fun b18 hb18=>Aw (fun hc18=>?_) fun hc18=>?_
 ·omega
 refine Rn [16,5,3,0,11,152,7,31,57,2,12] fun b24 hb24=>Aw (fun hc24=>?_) fun hc24=>?_
 ·omega
 refine Rn [16,5] ?_
 refine bc 11 ?_
 refine Rn [0,11,152,7,152,7,152,7,152,7] ?_
 refine Xv rfl (cY rfl rfl rfl Zo) ?_
 refine aI (τ:=ak) (v:=Vi (ap bJ s.fs y.fund (y.copies*y.price)).1) (fun q=>ag 5 q (ap bJ s.fs y.fund (y.copies*y.price)).2.length (ax cD (ap bJ s.fs y.fund (y.copies*y.price)).2)) (fun q=>(Bk p3 y.cells 25)::(dG pR pG tr RE s.L.length++(bD pG q (ap bJ s.fs y.fund (y.copies*y.price)).2.length++L))) rfl rfl Tryz.func89 Zk rfl (fun w1 hw1=>r_enc (l1:=(Bk p3 y.cells 25)::dG pR pG tr RE s.L.length) (L:=L) (RF:=RF) (fs:=s.fs) hw1 hF y.fund (y.copies*y.price) hok.fs) fun q36 hq36=>?_
 refine Rn [1,2,5,3,0,37,2,12] fun b38 hb38=>Aw (fun hc38=>?_) fun hc38=>?_
 ·refine Rn [3,0,1,2,6,8] ?_
  refine aw rfl rfl (fun w' hm'=>?_)
  have hf1:(ap bJ s.fs y.fund (y.copies*y.price)).2=s.fs:=im vI (by simpa using hc38)
  rw [hf1] at hq36 hm'
  rw [show (aD s y)=((ap bJ s.fs y.fund (y.copies*y.price)).1,s) from by unfold aD; rw [if_neg (by rw [hw]; decide),if_neg (by rw [hl]; decide),if_pos (by simpa using hc38)]]
  exact ⟨rfl,(RE,q36),⟨hE,hq36⟩,hm'.less Ls (fun _ h=>h)⟩
 refine Rn [23,1,2] ?_
 refine cO (σ:=Nat) (fun k=>k≤s.L.length∧(∀ j (hj:j < s.L.length),j < k→s.L[j].1.id < y.id)∧∀ hk:k < s.L.length,¬s.L[k].1.id < y.id) (fun k=>[(0,Pt pR),(3,Pt p3),(7,Vi (k:Nat))]) (fun k=>(Bk p3 y.cells 25)::(dG pR pG tr RE s.L.length++(bD pG q36 (ap bJ s.fs y.fund (y.copies*y.price)).2.length++L))) (fun k=>ro) ?_ ?_
 ·refine nn ?_
  refine aO (σ:=Nat) (fun k=>k≤s.L.length∧∀ j (hj:j < s.L.length),j < k→s.L[j].1.id < y.id) (fun k=>[(0,Pt pR),(3,Pt p3),(7,Vi (k:Nat))]) (fun k=>(Bk p3 y.cells 25)::(dG pR pG tr RE s.L.length++(bD pG q36 (ap bJ s.fs y.fund (y.copies*y.price)).2.length++L))) (fun k=>ro) (fun k=>s.L.length - k) (0) (⟨Nat.zero_le _,fun j _ h=>absurd h (Nat.not_lt_zero _)⟩) (aC Zu (fun _ h=>h)) ?_
  rintro k ⟨hk,hbe⟩
  refine Zs (Zs ?_)
  rcases Nat.lt_or_ge k s.L.length with hkl | hkn
  ·obtain ⟨b5,cs5,c5,rfl⟩:=bN bf (by decide) hE hkl
   refine bc 21 ?_
   refine Rn [0,0,11,152,7,31,24] fun b46 hb46=>?_
   obtain rfl:b46=true:=hb46.trans (decide_eq_true (by omega))
   refine Rn [0,29,82,154,50,29,89,154,154] ?_
   refine cz rfl rfl rfl rfl rfl (aW u3 rfl rfl (aa (vs:=cs5) (.tail _ (.tail _ (.head _))) (cg bf hE hkl (j:=0) rfl))) ?_
   refine Rn [154,50,76,30,2,10] fun b59 hb59 b60 hb60=>Aw (fun hc60=>?_) fun hc60=>?_
   ·have hlt:s.L[k].1.id < y.id:=by rw [hb60,hb59] at hc60; simpa using hc60
    refine Rn [16,14,18,0,26,1,13,27] ?_
    exact aJ (k+1) ⟨hkl,mi hbe (fun hj=>hlt)⟩ (by show s.L.length - (k+1) < s.L.length - k; omega) Zu (fun _ h=>h)
   have hge:¬s.L[k].1.id < y.id:=by rw [hb60,hb59] at hc60; simpa using hc60
   refine Rn [34,19,19,35] ?_
   exact cv k ⟨hk,hbe,fun _=>hge⟩ Zu (fun _ h=>h)
  refine bc 21 ?_
  refine Rn [0,0,11,152,7,31,24] fun b46 hb46=>?_
  obtain rfl:b46=false:=hb46.trans (decide_eq_false (by omega))
  refine Rn [0,33,33,33,33,33,33,33,33,33,33,33,33] ?_
  refine Xb rfl (lz (v:=false) rfl rfl) fun b60 hb60=>?_
  refine Rn [2,10] (Aw (fun hc60=>?_) fun hc60=>?_)
  ·rw [hb60] at hc60; cases hc60
  refine Rn [34,19,19,35] ?_
  exact cv k ⟨hk,hbe,fun h=>absurd h (by omega)⟩ Zu (fun _ h=>h)
 rintro k ⟨hk,hbe,hge⟩
 have hdl:(s.L.drop k).length=s.L.length - k:=List.length_drop
 have htl:(s.L.take k).length=k:=by rw [List.length_take]; omega
 refine Rn [3,152,7,152,7,152] ?_
 refine Xv rfl (bj (vs:=[Vi y.src,Vi y.num]) l9 rfl iL rfl (fun j hj=>aa (vs:=y.cells) (.head _) (by match j,hj with | 0,_=>rfl | 1,_=>rfl))) ?_
 refine Rn [152,7,152,7,152,7] ?_
 refine Xv (v:=Value.agg (bm y).cells.toArray) rfl (aH (cs:=(bm y).cells) (places:=[(0,1),(1,1),(2,2),(4,1),(5,1),(6,1),(7,1),(8,1)]) f4 gI Zk rfl rfl) ?_
 refine Rn [28,32,2,5] fun p8=>?_
 refine ew 11 [(true,0),(true,1),(true,2),(true,3),(true,5),(true,6),(true,7),(true,8),(true,9),(true,10),(false,4)] Zk Zk ?_
 refine Rn [39,152,7] ?_
 refine Xv (v:=Value.agg (du (bm y,y.price)).toArray) rfl (aH (cs:=du (bm y,y.price)) (places:=[(0,9),(9,1)]) u144 wQ Zk rfl rfl) ?_
 refine Rn [0,11,152,7,0] ?_
 refine Xv rfl (t6 (i:=k) mW oa rfl rfl hk (nG hE)) ?_
 refine ac (cs:=du (bm y,y.price)) rfl rfl rfl mW oa wQ rfl rfl rfl ?_
 intro p80
 refine gh (e:=144) (m:=s.L.length - k) [] (l2:=(p8,Obj.cells (bm y).cells.toArray 25)::(Bk p3 y.cells 25)::(dG pR pG tr RE s.L.length++(bD pG q36 (ap bJ s.fs y.fund (y.copies*y.price)).2.length++L))) (some (p80,du (bm y,y.price),1)) (len:=1) (xs:=du (bm y,y.price)) (news:=ax du (s.L.drop k)) rfl rfl rfl rfl rfl (cE rfl (by decide)) mW yg rfl (by rw [l7,hdl]) (fun ha=>?_) (fun w1 hw1 a ha j u hu=>rec_tail (e:=144) bf (by decide) hE hw1 (fun p hp=>by simp [hp,dG]) hk ha hu) (nE bf _) Zx (by omega) ?_
 ·by_cases hcap:tA RE=k
  ·have:=nG hE; omega
  rw [if_neg hcap] at ha
  have:=l6 bf (by decide) hE (by cases h:jN RE with | none=>rfl | some a=>rw [h] at ha; cases ha)
  omega
 intro R9 hR9
 refine Rn [1,9,0] ?_
 refine kF rfl rfl rfl mW oa ?_
 intro p89
 refine Rn [0,11,152,7,0] ?_
 refine Xv rfl (qe (j:=k) mW oa rfl rfl (Nat.le_trans hk (nG hE))) ?_
 refine gh (e:=144) (m:=k) [] (l2:=[]++aA 144 R9++(p8,Obj.cells (bm y).cells.toArray 25)::(Bk p3 y.cells 25)::(dG pR pG tr RE s.L.length++(bD pG q36 (ap bJ s.fs y.fund (y.copies*y.price)).2.length++L))) (some (p89,[],0)) (len:=0) (xs:=[]) (news:=ax du (s.L.take k)) rfl rfl rfl rfl rfl ⟨rfl,Nat.le_refl _,Nat.zero_le _,rfl,rfl⟩ mW yg rfl (by rw [l7,htl]) (fun ha=>by have:=l6 bf (by decide) hE ha; omega) (fun w1 hw1 a ha j u hu=>rec_head (e:=144) bf hE hw1 (fun p hp=>by simp [hp,dG]) ha hu) (nE bf _) Zx (by omega) fun R6 hR6=>?_
 rw [Nat.zero_add k] at hR6 ⊢
 rw [List.nil_append] at hR6
 refine Xm ?_
 have hR9':ag 10 R9 (1+(s.L.length - k)) (ax du ((bm y,y.price)::(s.L.drop k))):=hR9
 refine gh (e:=144) (m:=1+(s.L.length - k)) (c2:=tA R9) (ao:=jN R9) [] (l2:=[]++aA 144 R9++(p8,Obj.cells (bm y).cells.toArray 25)::(Bk p3 y.cells 25)::(dG pR pG tr RE s.L.length++(bD pG q36 (ap bJ s.fs y.fund (y.copies*y.price)).2.length++L))) R6 (len:=k) (xs:=ax du (s.L.take k)) (news:=ax du ((bm y,y.price)::(s.L.drop k))) rfl rfl rfl rfl rfl hR6 mW yg rfl (by rw [l7,List.length_cons,hdl]; omega) (fun ha=>by have:=l6 bf (by decide) hR9' ha; rw [List.length_cons] at this; omega) (fun w1 hw1 a ha j u hu=>lj (e:=144) bf hR9' hw1 (fun p hp=>by simp [hp]) ha hu) (nE bf _) Zx (by omega) fun RN hRN=>?_
 rw [show k+(1+(s.L.length - k))=s.L.length+1 by omega] at hRN ⊢
 rw [← ky,show (s.L.take k)++(bm y,y.price)::(s.L.drop k)=fm s.L (bm y,y.price) from (ya hk hbe hge).symm] at hRN
 refine Rn [11,152] ?_
 refine aG (cs:=[Pt pG,Vi tr,au RE s.L.length]) (off:=2) (e:=91) (l2:=aA 144 RE++(bD pG q36 (ap bJ s.fs y.fund (y.copies*y.price)).2.length++L)) (aA 144 RN++(aA 144 R9++[(p8,Obj.cells (bm y).cells.toArray 25),(Bk p3 y.cells 25)])) rfl rfl rfl (by simp [dG]) AW rfl (by show 2+1≤3; decide) ?_
 refine Rn [9,1,2,6] ?_
 refine aw rfl rfl (fun w' hm'=>?_)
 rw [show (aD s y)=(0,⟨(ap bJ s.fs y.fund (y.copies*y.price)).2,s.tol,fm s.L (bm y,y.price)⟩) from by unfold aD; rw [if_neg (by rw [hw]; decide),if_neg (by rw [hl]; decide),if_neg (by simpa using hc38)]]
 exact ⟨rfl,(RN,q36),⟨by rw [pg]; exact hRN,hq36⟩,Mem.pick2 (show Mem w' (aA 144 RN++(aA 144 R9++((p8,Obj.cells (bm y).cells.toArray 25)::(Bk p3 y.cells 25)::((Bk pR [Pt pG,Vi tr,au RN (fm s.L (bm y,y.price)).length] 91)::(aA 144 RE++(bD pG q36 (ap bJ s.fs y.fund (y.copies*y.price)).2.length++L)))))) ro from hm'.to (by rw [pg]; simp <;> rfl))⟩
theorem r_Place {w:World} {L:List (Nat×Obj)} {ro:List av} {pR pG:Nat} {tr:Int} {RF:ak} {s:SG} (hF:ag 5 RF s.fs.length (ax cD s.fs)) (hok:SGok s) (htr:s.tol=min (max tr 0) 1000000) {RE:ak} (hE:ag 10 RE s.L.length (ax du s.L)) (hm:Mem w (dG pR pG tr RE s.L.length++(bD pG RF s.fs.length++L)) ro) (y:PK.Ord) (hy:y.okA) (hlen:s.L.length≤4000):Calls Tryz.prog 78 #[Pt pR,.agg y.cells.toArray] w fun e w'=>e=.returned (Vi (aD s y).1)∧∃ q:ak×ak,(ag 10 q.1 (aD s y).2.L.length (ax du (aD s y).2.L)∧ag 5 q.2 (aD s y).2.fs.length (ax cD (aD s y).2.fs))∧Mem w' (dG pR pG tr q.1 (aD s y).2.L.length++(bD pG q.2 (aD s y).2.fs.length++L)) ro:=by
 cases hw:bV y with
 | false=>exact r_PlaceW hF hok htr hE hm y hy hw
 | true =>
  cases hl:cq s.L y.id with
  | none=>exact r_PlaceF hF hok htr hE hm y hy (gZ hl) hl hw hlen
  | some z =>
   obtain ⟨x,first⟩:=z
   obtain ⟨k,hk,h1,h2,_,h4⟩:=gY hl
   obtain ⟨b,cs,c,rfl⟩:=bN bf (by decide) hE hk
   exact r_PlaceT hF hok htr hE hm hk h2 y hy h1 hl hw
open Go.RowKit Go.PK
theorem r_OpenL {pG:Nat} (tr:Int) (s:ByteArray) (w:World) (hs:s.size≤2000000) :
  Calls Tryz.prog 46 #[Pt pG,Vi tr,.string s] w fun e w'=>∃ q:Option (Nat×ak×List EN),e=.returned (.tuple #[.pointer (q.map fun z=>⟨z.1,0,none⟩),Vi (if q.isSome then 0 else 11)])∧xb s=q.map (·.2.2)∧(∀ z∈q,ag 10 z.2.1 z.2.2.length (ax du z.2.2))∧Mem w' (q.elim [] fun z=>dG z.1 pG tr z.2.1 z.2.2.length) [(w,fun _=>True)]:=by
 refine enter Tryz.func46 rfl Tryz.ntmps46 rfl ?_
 refine Rn [3,1,1,9,0] ?_
 refine Xd (R:=fun v wa wb=>∃ A1 c1,v=.tuple #[.slice A1 (zv s).1.length c1,Vi (zv s).2]∧ab i8 (fun b=>wa.heap.size≤b) wb (.slice A1 (zv s).1.length c1) (zv s).1) rfl Tryz.func42 rfl (fun w1 hw1=>(c_rRI s w1 hs).mono fun e w2 ⟨v,h1,h2,h3⟩=>by obtain ⟨A1,c1,rfl,_⟩:=id h3; exact ⟨_,h1,h2,A1,c1,rfl,h3⟩) fun v17 wa17 wb17 hm17 hl17 hR17=>?_
 obtain ⟨A17,c17,rfl,hr17⟩:=hR17
 obtain ⟨xs,hxs⟩:∃ l,(zv s).1=l:=⟨_,rfl⟩
 obtain ⟨re,hre⟩:∃ l,(zv s).2=l:=⟨_,rfl⟩
 rw [hxs] at hr17
 rw [hxs,hre]
 refine Rn [0,20,20,1,1,2,5,3,0,37,0,21,61] fun b21 hb21=>?_
 refine fV [] (v:=Vi ((xs.length%10:Nat):Int)) rfl rfl rfl rfl rfl (fun hg=>by obtain ⟨hg0,_⟩:=hg; subst hg0; (try simp only [Qy]); exact mw (b:=10) rfl rfl (by decide)) ?_
 refine Rn [74,25,0,21,61,63,25,2,10] fun b26 hb26 b27 hb27 b31 hb31 b32 hb32=>Aw (fun hc32=>?_) fun hc32=>?_
 ·simp only [hb32,hb31,hb27,hb26,hb21,Qz,ne_eq] at hc32
  have hF:xb s=none:=by
   unfold xb
   rw [hxs,hre,if_pos (by rcases hc32 with (h | h) | h; (· exact .inl h); (· exact .inr (.inl (by omega))); exact .inr (.inr (by omega)))]
  refine Rn [3,1,1,2,6,8] ?_
  exact s7 rfl rfl rfl (fun w' hm=>⟨none,rfl,hF,fun z hz=>(by cases hz),hm.less (List.nil_sublist _) (fun q hq=>by rw [List.mem_singleton.1 hq]; simp)⟩)
 simp only [hb32,hb31,hb27,hb26,hb21,Qz,ne_eq] at hc32
 have hre0:re=0:=hc32.1.1
 have hl10:xs.length%10=0:=by have:=hc32.1.2; omega
 have hl50:xs.length≤50000:=by have:=hc32.2; omega
 obtain ⟨q,hq⟩:∃ q,xs.length=10*q:=⟨xs.length / 10,by omega⟩
 have hG:xb s=yA xs q:=by
  unfold xb
  rw [hxs,hre,if_neg (by rintro (h | h | h) <;> omega),show xs.length / 10=q by omega]
 refine Rn [23,0,0] ?_
 refine fq (τ:=Nat) (fun p=>Pt p) (fun _=>True) (fun p=>[(Bk p [Pt pG,Vi tr,au none 0] 91)]) rfl rfl rfl Tryz.func77 Zk rfl (fun w1 hw1=>(r_NewO tr w1).mono fun e w2 ⟨p,h1,h2⟩=>⟨p,h1,h2.b,trivial,hw1.join h2⟩) fun p35 _=>?_
 refine Rn [1,2,5,3,1,2,14] ?_
 refine aO (σ:=Nat×ak×List EN) (fun x=>x.1≤q∧yA xs x.1=some x.2.2∧ag 10 x.2.1 x.1 (ax du x.2.2)) (fun x=>[(8,Value.slice A17 xs.length c17),(10,Pt p35),(11,Vi ((10*x.1:Nat):Int))]) (fun x=>(Bk p35 [Pt pG,Vi tr,au x.2.1 x.1] 91)::aA 144 x.2.1) (fun x=>[(wb17,a7 []),(w,fun _=>True)]) (fun x=>q - x.1) ((0,none,[])) (⟨Nat.zero_le _,rfl,bG⟩) (aC Zu (fun _ h=>h)) ?_
 rintro ⟨k,R,L⟩ ⟨hkq,hop,hR⟩
 refine Rn [144] ?_
 dsimp only at hkq hop hR
 refine Rn [5,3,0,0,31,24,2,12] fun b39 hb39=>Aw (fun hc39=>?_) fun hc39=>?_
 ·have hk:k < q:=by omega
  obtain ⟨b0,o0,hA0,hD0,hcell⟩:=ye hr17 (by omega)
  obtain ⟨E,hE⟩:∃ E,s9 xs (10*k)=E:=⟨_,rfl⟩
  have hlc:xs.length≤c17:=by
   obtain ⟨A',c',e,h1,_⟩:=id hr17
   injection e with e1 e2 e3
   omega
  have hC:∀ j,j < 10→wb17.cell? ⟨b0,o0+10*k*1+j*1,none⟩=some (Vi (xs.getD (10*k+j) 0))∧aj (xs.getD (10*k+j) 0):=fun j hj=>by
   have hlt:10*k+j < xs.length:=by omega
   obtain ⟨h1,h2⟩:=hcell (10*k+j) xs[10*k+j] (List.getElem?_eq_getElem hlt)
   rw [xA hlt,Nat.mul_one,Nat.mul_one,Nat.add_assoc]
   exact ⟨h1,h2⟩
  have hEa:E.1.okA:=by
   rw [← hE]
   exact ⟨⟨(hC 0 (by decide)).2,(hC 1 (by decide)).2,(hC 2 (by decide)).2,(hC 3 (by decide)).2,(hC 4 (by decide)).2,(hC 5 (by decide)).2⟩,(hC 6 (by decide)).2,(hC 7 (by decide)).2,(hC 8 (by decide)).2⟩
  have hEf:aj E.2:=by rw [← hE]; exact (hC 9 (by decide)).2
  have hP:0 < k→wb17.cell? ⟨b0,o0+10*(k - 1)*1,none⟩=some (Vi (xs.getD (10*(k - 1)) 0)):=fun h0=>by
   have hlt:10*(k - 1) < xs.length:=by omega
   obtain ⟨h1,h2⟩:=hcell (10*(k - 1)) xs[10*(k - 1)] (List.getElem?_eq_getElem hlt)
   rw [xA hlt,Nat.mul_one]
   exact h1
  have hLl:=zC hop
  refine Rn [16,5,14,3,0,0,0] ?_
  refine Xv rfl (bg (c:=((10*k+10:Nat):Int)) rfl rfl (by omega) (by omega)) (Xv rfl (v_scut_w (i:=10*k) (n0:=10) ij cT (congrArg (fun A=>some (Value.slice A xs.length c17)) hA0) rfl rfl (by decide) (by omega)) ?_)
  refine Rn [1,9,0] ?_
  refine Xv rfl (ae (j:=9) ij cT rfl rfl Zo rfl) (Xl rfl u3 rfl (an (v:=Vi E.2) (.head _) (fun q hq=>by cases hq) (by rw [← hE]; exact (hC 9 (by decide)).1)) (Xv (v:=Value.agg (bu co E.2).toArray) rfl (aH (cs:=bu co E.2) (places:=[(0,9),(9,1)]) u144 wQ Zk rfl rfl) ?_))
  refine Rn [28,32,2,5] fun p13=>?_
  refine bc 30 ?_
  refine Xm ?_
  refine Xv rfl (ae (j:=0) ij cT rfl rfl Zo rfl) (Xl rfl u3 rfl (an (v:=Vi E.1.id) (.head _) (fun q hq=>by cases hq) (by rw [← hE]; exact (hC 0 (by decide)).1)) (Xm ?_))
  refine Xv rfl (ae (j:=1) ij cT rfl rfl Zo rfl) (Xl rfl u3 rfl (an (v:=Vi E.1.fund) (.head _) (fun q hq=>by cases hq) (by rw [← hE]; exact (hC 1 (by decide)).1)) (Xm ?_))
  refine Xv rfl (ae (j:=2) ij cT rfl rfl Zo rfl) (Xl rfl u3 rfl (an (v:=Vi E.1.src) (.head _) (fun q hq=>by cases hq) (by rw [← hE]; exact (hC 2 (by decide)).1)) (Xm ?_))
  refine Xv rfl (ae (j:=3) ij cT rfl rfl Zo rfl) (Xl rfl u3 rfl (an (v:=Vi E.1.num) (.head _) (fun q hq=>by cases hq) (by rw [← hE]; exact (hC 3 (by decide)).1)) (Xv rfl (aH (places:=[(0,1),(1,1)]) l9 pV Zk rfl rfl) (Xm ?_)))
  refine Xv rfl (ae (j:=4) ij cT rfl rfl Zo rfl) (Xl rfl u3 rfl (an (v:=Vi E.1.copies) (.head _) (fun q hq=>by cases hq) (by rw [← hE]; exact (hC 4 (by decide)).1)) (Xm ?_))
  refine Xv rfl (ae (j:=5) ij cT rfl rfl Zo rfl) (Xl rfl u3 rfl (an (v:=Vi E.1.price) (.head _) (fun q hq=>by cases hq) (by rw [← hE]; exact (hC 5 (by decide)).1)) (Xm ?_))
  refine Xv rfl (ae (j:=6) ij cT rfl rfl Zo rfl) (Xl rfl u3 rfl (an (v:=Vi E.1.prom) (.head _) (fun q hq=>by cases hq) (by rw [← hE]; exact (hC 6 (by decide)).1)) (Xm ?_))
  refine Xv rfl (ae (j:=7) ij cT rfl rfl Zo rfl) (Xl rfl u3 rfl (an (v:=Vi E.1.paid) (.head _) (fun q hq=>by cases hq) (by rw [← hE]; exact (hC 7 (by decide)).1)) (Xm ?_))
  refine Xv rfl (ae (j:=8) ij cT rfl rfl Zo rfl) (Xl rfl u3 rfl (an (v:=Vi E.1.st) (.head _) (fun q hq=>by cases hq) (by rw [← hE]; exact (hC 8 (by decide)).1)) (Xv (v:=Value.agg E.1.cells.toArray) rfl (aH (cs:=E.1.cells) (places:=[(0,1),(1,1),(2,2),(4,1),(5,1),(6,1),(7,1),(8,1)]) f4 gI Zk rfl rfl) ?_))
  refine Rn [4] ?_
  refine aG (cs:=bu co E.2) (off:=0) (e:=144) (l2:=(Bk p35 [Pt pG,Vi tr,au R k] 91)::aA 144 R) [] rfl rfl rfl rfl cm rfl (by show 9≤10; decide) ?_
  refine Rn [2,5] ?_
  refine dY (own':=(Bk p13 (bu E.1 E.2) 144)::(Bk p35 [Pt pG,Vi tr,au R k] 91)::aA 144 R) (ro':=[(wb17,a7 []),(w,fun _=>True)]) (fun w1 h=>h.to (by rfl)) ?_
  refine Rn [18,39] ?_
  refine Xh rfl Tryz.func101 rfl (fun w1 hw1=>r_rightO E.1 E.2 w1 hEa hEf) fun b82 hb82=>?_
  refine Rn [1,2,5,5] ?_
  refine bc 17 ?_
  refine Rn [0,43,0,21,63,21,95,95] fun b84 hb84 b87 hb87=>?_
  refine fV [(b84,false)] (v:=Vi E.1.id) rfl rfl rfl rfl rfl (fun hg=>by obtain ⟨hg0,hg1,_⟩:=hg; subst hg0; subst hg1; (try simp only [Qy]); have hk0:0 < k:=(by have:=of_decide_eq_true hb87.symm; omega); exact aW u3 rfl rfl (aa (vs:=bu E.1 E.2) (.head _) rfl)) ?_
  refine Rn [71,71] ?_
  refine fV [(b84,false)] (v:=Vi ((10*(k - 1):Nat):Int)) rfl rfl rfl rfl rfl (fun hg=>by obtain ⟨hg0,hg1,_⟩:=hg; subst hg0; subst hg1; (try simp only [Qy]); have hk0:0 < k:=(by have:=of_decide_eq_true hb87.symm; omega); exact dH (c:=((10*(k - 1):Nat):Int)) rfl rfl (by omega) (by omega)) ?_
  refine fV [(b84,false)] (v:=Value.pointer (some ⟨b0,o0+10*(k - 1)*1,none⟩)) rfl rfl rfl rfl rfl (fun hg=>by obtain ⟨hg0,hg1,_⟩:=hg; subst hg0; subst hg1; (try simp only [Qy]); have hk0:0 < k:=(by have:=of_decide_eq_true hb87.symm; omega); exact ae (j:=10*(k - 1)) ij cT (congrArg (fun A=>some (Value.slice A xs.length c17)) hA0) rfl (by omega) rfl) ?_
  refine fV [(b84,false)] (v:=Vi (xs.getD (10*(k - 1)) 0)) rfl rfl rfl rfl rfl (fun hg=>by obtain ⟨hg0,hg1,_⟩:=hg; subst hg0; subst hg1; (try simp only [Qy]); have hk0:0 < k:=(by have:=of_decide_eq_true hb87.symm; omega); exact aW u3 rfl rfl (an (.head _) (fun q hq=>by cases hq) (hP hk0))) ?_
  refine fp [(b84,false)] rfl rfl rfl rfl rfl (fun hg=>by obtain ⟨hg0,hg1,_⟩:=hg; subst hg0; subst hg1; (try simp only [Qy]); exact nM rfl rfl) fun b97 hb97=>?_
  refine Rn [81,25,2,10] fun b98 hb98 b99 hb99=>Aw (fun hc99=>?_) fun hc99=>?_
  ·simp only [hb99,hb98,hb97,hb87,hb84,hb82,Qz,ne_eq] at hc99
   have hF:xb s=none:=by
    rw [hG]
    exact zL (k:=k+1) (opO_fail hop (by rw [hE]; exact hc99.imp (fun h=>h) fun h=>⟨by omega,h.2⟩)) (by omega)
   refine Rn [3,1,1,2,6,8,15,8,8,15,8] ?_
   exact s7 rfl rfl rfl (fun w' hm=>⟨none,rfl,hF,fun z hz=>(by cases hz),hm.less (List.nil_sublist _) (fun q hq=>by rw [List.mem_singleton.1 hq]; simp)⟩)
  simp only [hb99,hb98,hb97,hb87,hb84,hb82,Qz,ne_eq] at hc99
  have hop1:yA xs (k+1)=some (L++[E]):=by
   rw [← hE]
   exact opO_succ hop (by rw [hE]; exact hc99.1) (fun h0=>by rw [hE]; have:=hc99.2; simp only [s9]; omega)
  refine Rn [16] ?_
  refine cL ([(Bk p13 (bu E.1 E.2) 144)]) 11 (.flt 0 (.flt 1 (.flt 2 (.flt 3 (.flt 5 (.gr 4 (.gr 6 (.gr 7 (.flt 8 (.flt 9 (.gr 10 .done .nil))) .nil) .nil) (.gr 6 (.gr 4 (.gr 7 (.flt 8 (.flt 9 (.gr 10 .done .nil))) .nil) .nil) .nil))))))) (List.singleton_sublist.2 (by simp)) Zk Zk ?_
  refine Rn [44,44,65,41,84] ?_
  refine j_gr ?_ ?_
  ·refine Rn [51,13] ?_
   refine dK (List.singleton_sublist.2 (by simp)) ?_
   refine Rn [42] ?_
   refine ac (cs:=bu E.1 E.2) rfl rfl rfl mW oa wQ rfl rfl rfl ?_
   intro p106
   refine Ze ?_
   refine dK (List.singleton_sublist.2 (by simp)) ?_
   refine Rn [42] ?_
   refine be (e:=144) [(Bk p106 (bu E.1 E.2) 144),(Bk p13 (bu E.1 E.2) 144),(Bk p35 [Pt pG,Vi tr,au R k] 91)] (l2:=[]) R (len:=k) (xs:=ax du L) rfl rfl rfl rfl (by simp) hR mW yg rfl rfl (m:=1) (news:=bu E.1 E.2) (fun i hi=>aa (vs:=bu E.1 E.2) (.head _) (by rw [Nat.zero_add]; exact List.getElem?_eq_getElem hi)) rfl Zx (by omega) fun R' hR'=>?_
   refine Ze ?_
   refine dK (List.singleton_sublist.2 (by simp)) ?_
   refine Rn [65,41,42] ?_
   refine aG (cs:=[Pt pG,Vi tr,au R k]) (off:=2) (e:=91) (l2:=aA 144 R'++[]) [(Bk p106 (bu E.1 E.2) 144),(Bk p13 (bu E.1 E.2) 144)] rfl rfl rfl rfl AW rfl (by show 2+1≤3; decide) ?_
   refine Ze ?_
   refine dK (List.singleton_sublist.2 (by simp)) ?_
   refine Rn [56,13,27,17,18,0,26,1,13] ?_
   have hR2:ag 10 R' (k+1) (ax du (L++[E])):=by rw [ky,nD]; exact hR'
   exact aJ (k+1,R',L++[E]) ⟨hk,hop1,hR2⟩ (by simp only; omega) (by dsimp only; rw [show 10*(k+1)=10*k+10 by omega]; exact Zu) (fun w1 h=>(h.less (Ls.trans Ls) (fun _ h=>h)).to (by simp; rfl))
  refine Rn [42] ?_
  refine ac (cs:=bu E.1 E.2) rfl rfl rfl mW oa wQ rfl rfl rfl ?_
  intro p106
  refine Ze ?_
  refine dK (List.singleton_sublist.2 (by simp)) ?_
  refine Rn [42,51,13] ?_
  refine dK (List.singleton_sublist.2 (by simp)) ?_
  refine Rn [42] ?_
  refine be (e:=144) [(Bk p106 (bu E.1 E.2) 144),(Bk p13 (bu E.1 E.2) 144),(Bk p35 [Pt pG,Vi tr,au R k] 91)] (l2:=[]) R (len:=k) (xs:=ax du L) rfl rfl rfl rfl (by simp) hR mW yg rfl rfl (m:=1) (news:=bu E.1 E.2) (fun i hi=>aa (vs:=bu E.1 E.2) (.head _) (by rw [Nat.zero_add]; exact List.getElem?_eq_getElem hi)) rfl Zx (by omega) fun R' hR'=>?_
  refine Ze ?_
  refine dK (List.singleton_sublist.2 (by simp)) ?_
  refine Rn [65,41,42] ?_
  refine aG (cs:=[Pt pG,Vi tr,au R k]) (off:=2) (e:=91) (l2:=aA 144 R'++[]) [(Bk p106 (bu E.1 E.2) 144),(Bk p13 (bu E.1 E.2) 144)] rfl rfl rfl rfl AW rfl (by show 2+1≤3; decide) ?_
  refine Ze ?_
  refine dK (List.singleton_sublist.2 (by simp)) ?_
  refine Rn [56,13,27,17,18,0,26,1,13] ?_
  have hR2:ag 10 R' (k+1) (ax du (L++[E])):=by rw [ky,nD]; exact hR'
  exact aJ (k+1,R',L++[E]) ⟨hk,hop1,hR2⟩ (by simp only; omega) (by dsimp only; rw [show 10*(k+1)=10*k+10 by omega]; exact Zu) (fun w1 h=>(h.less (Ls.trans Ls) (fun _ h=>h)).to (by simp; rfl))
 obtain rfl:k=q:=by omega
 refine Rn [34,19,19,35,17,3,0,1,1,2,6] ?_
 exact s7 rfl rfl rfl (fun w' hm'=>⟨some (p35,R,L),rfl,hG.trans hop,fun z hz=>by cases hz; rw [zC hop]; exact hR,(hm'.less (.refl _) (fun _ h=>.tail _ h)).to (by simp [zC hop,dG])⟩)
open Go.RowKit Go.PK
theorem s_less {n:Nat} {l:List (Nat×Value)} {own own':List (Nat×Obj)} {ro:List av} {K:Act→World→Prop} (hs:own'.Sublist own) (h:S K n l own' ro):S K n l own ro:=fun a w ha hw=>h a w ha (hw.less hs (fun _ h=>h))
theorem s_beginG {P:Program} {m n:Nat} {l:List (Nat×Value)} {rest:List (Nat×Obj)} {ro:List av} {R:Ending→World→Prop} {L:Nat} {fn:FuncId} {tmps:Array Value} {assign body:Code} {D:Nat} {st:LoopState} {ps:Array Tmp} (hst:st=.ready)
  (h:∀ lb,lb=j3 .busy fn tmps ps assign body D→WI (Fence.wide.inRound L) m P body (roundPost P L R) n l ((L,.loop lb)::rest) ro) :
  S (fun a w=>∃ w2,(Instr.beginRound L).run P w=.ok () w2∧body.wpIn (Fence.wide.inRound L) m P (roundPost P L R) a w2) n l ((L,.loop (j3 st fn tmps ps assign body D))::rest) ro:=AI hst (h _ rfl)
attribute [local irreducible] WX
theorem AU {pF:Nat} (tr:Int) (s:ByteArray) (w:World) (hs:s.size≤2000000) (hL:LD w) :
  Calls Tryz.prog 45 #[Pt pF,Vi tr,.string s] w fun e w'=>∃ q:Option (Nat×Nat×Array MapEntry×Nat×List EN),e=.returned (.tuple #[.pointer (q.map fun z=>⟨z.1,0,none⟩),Vi (if q.isSome then 0 else 11)])∧xb s=q.map (·.2.2.2.2)∧(∀ z∈q,MapC Tryz.prog 3 z.2.2.1 z.2.2.2.1 (fR z.2.2.2.2))∧Mem w' (q.elim [] fun z=>[(Bk z.1 (cJ pF (min (max tr 0) 1000000) z.2.1) 38),(z.2.1,Obj.map z.2.2.1 z.2.2.2.1)]) [(w,fun _=>True)]:=by
 refine enterM (vs:=[Pt pF,Vi tr,.string s]) 2 Tryz.func45 rfl Tryz.ntmps45 rfl ?_
 refine Rn [3,28,28,9,0] fun p6 p7=>?_
 refine Xd (R:=fun v wa wb=>∃ A1 c1,v=.tuple #[.slice A1 (zv s).1.length c1,Vi (zv s).2]∧ab i8 (fun b=>wa.heap.size≤b) wb (.slice A1 (zv s).1.length c1) (zv s).1) rfl Tryz.func98 rfl (fun w1 hw1=>(c_RI s w1 hs).mono fun e w2 ⟨v,h1,h2,h3⟩=>by obtain ⟨A1,c1,rfl,_⟩:=id h3; exact ⟨_,h1,h2,A1,c1,rfl,h3⟩) fun v16 wa16 wb16 hm16 hl16 hR16=>?_
 obtain ⟨A16,c16,rfl,hr16⟩:=hR16
 obtain ⟨xs,hxs⟩:∃ l,(zv s).1=l:=⟨_,rfl⟩
 obtain ⟨re,hre⟩:∃ l,(zv s).2=l:=⟨_,rfl⟩
 rw [hxs] at hr16
 rw [hxs,hre]
 refine Rn [0,20,20,1,1,2,5,3,0,37,0,21,61] fun b20 hb20=>?_
 refine fV [] (v:=Vi ((xs.length%10:Nat):Int)) rfl rfl rfl rfl rfl (fun hg=>by obtain ⟨hg0,_⟩:=hg; subst hg0; (try simp only [Qy]); exact mw (b:=10) rfl rfl (by decide)) ?_
 refine Rn [74,25,0,21,61,63,25,2,10] fun b25 hb25 b26 hb26 b30 hb30 b31 hb31=>Aw (fun hc31=>?_) fun hc31=>?_
 ·simp only [hb31,hb30,hb26,hb25,hb20,Qz,ne_eq] at hc31
  have hF:xb s=none:=by
   unfold xb
   rw [hxs,hre,if_pos (by rcases hc31 with (h | h) | h; (· exact .inl h); (· exact .inr (.inl (by omega))); exact .inr (.inr (by omega)))]
  refine Rn [3] ?_
  refine aG (cs:=[Value.pointer none]) (off:=0) (e:=27) (l2:=[]) [(Bk p7 [Vi 0] 30)] rfl rfl rfl rfl Ao rfl (by show 1≤1; decide) ?_
  refine aG (cs:=[Vi 0]) (off:=0) (e:=30) (l2:=[(Bk p6 [Value.pointer none] 27)]) [] rfl rfl rfl rfl Ap rfl (by show 1≤1; decide) ?_
  refine Rn [2,6,8] ?_
  refine ret2M0 (m:=2) (b:=p6) (b2:=p7) (v:=.pointer none) (v2:=Vi 11) rfl rfl rfl AD rfl u30 rfl (aa (vs:=[Value.pointer none]) Zh rfl) (aa (vs:=[Vi 11]) Zh rfl) (fun w' hm=>⟨none,rfl,hF,(fun z hz=>by cases hz),hm.less (List.nil_sublist _) (fun q hq=>by rw [List.mem_singleton.1 hq]; simp)⟩)
 simp only [hb31,hb30,hb26,hb25,hb20,Qz,ne_eq] at hc31
 have hre0:re=0:=hc31.1.1
 have hl10:xs.length%10=0:=by have:=hc31.1.2; omega
 have hl50:xs.length≤50000:=by have:=hc31.2; omega
 obtain ⟨q,hq⟩:∃ q,xs.length=10*q:=⟨xs.length / 10,by omega⟩
 have hG:xb s=yA xs q:=by
  unfold xb
  rw [hxs,hre,if_neg (by rintro (h | h | h) <;> omega),show xs.length / 10=q by omega]
 refine Rn [23,0,0] ?_
 refine fq (τ:=Nat×Nat) (fun z=>Pt z.1) (fun _=>True) (fun z=>[(Bk z.1 (cJ pF (min (max tr 0) 1000000) z.2) 38),(z.2,Obj.map #[] 0)]++[(Bk p7 [Vi 0] 30),(Bk p6 [Value.pointer none] 27)]) rfl rfl rfl Tryz.func17 Zk rfl (fun w1 hw1=>(Ar tr w1).mono fun e w2 ⟨z,h1,h2⟩=>⟨z,h1,h2.b,trivial,hw1.join2 h2⟩) ?_
 rintro ⟨pO,mO⟩ _
 refine Rn [28] fun p10=>?_
 refine aG [] rfl rfl rfl rfl Ao rfl (by first | decide | simp) ?_
 refine Rn [9,28] fun p11=>?_
 refine aG [] rfl rfl rfl rfl cT rfl (by first | decide | simp) ?_
 refine Rn [2,5,3,0] ?_
 refine fq (τ:=Nat×Nat) (fun x=>.func (.func 148) #[] #[Pt x.1,Pt x.2]) (fun _=>True) (fun x=>(Bk x.2 [Vi 10] 3)::(Bk x.1 [Value.slice A16 xs.length c16] 44)::(Bk p11 [Vi 0] 3)::(Bk p10 [Pt pO] 27)::(Bk pO (cJ pF (min (max tr 0) 1000000) mO) 38)::(mO,Obj.map #[] 0)::[(Bk p7 [Vi 0] 30),(Bk p6 [Value.pointer none] 27)]) rfl rfl rfl Tryz.func99 Zk rfl (fun w1 hw1=>(c_chunk A16 xs.length c16 w1).mono fun e w2 ⟨b2,b3,h1,h2,h3⟩=>⟨(b2,b3),h1,h2,trivial,(hw1.join2 h3).to (by first | (simp; done) | (simp; rfl) | (simp; exact ⟨rfl,rfl⟩))⟩) ?_
 rintro ⟨b2,b3⟩ _
 refine Rn [2,14] ?_
 have hlc:xs.length≤c16:=by
  obtain ⟨A1,c1,e,h1,_⟩:=id hr16
  injection e with _ _ e3
  omega
 refine w_rangeR (τ:=List EN×Array MapEntry×Nat) (σ:=List EN×Array MapEntry×Nat) (fun x=>yA xs q=some x.1∧MapC Tryz.prog 3 x.2.1 x.2.2 (fR x.1)) (fun x=>(Bk b3 [Vi 10] 3)::(Bk b2 [Value.slice A16 xs.length c16] 44)::(Bk p11 [Vi (xc x.1)] 3)::(Bk p10 [Pt pO] 27)::(Bk pO (cJ pF (min (max tr 0) 1000000) mO) 38)::(mO,Obj.map x.2.1 x.2.2)::[(Bk p7 [Vi 0] 30),(Bk p6 [Value.pointer none] 27)]) (fun z=>xb s=none) (fun z=>(Bk b3 [Vi 10] 3)::(Bk b2 [Value.slice A16 xs.length c16] 44)::(Bk p11 [Vi (xc z.1)] 3)::(Bk p10 [Pt pO] 27)::(Bk pO (cJ pF (min (max tr 0) 1000000) mO) 38)::(mO,Obj.map z.2.1 z.2.2)::[(Bk p7 [Vi 11] 30),(Bk p6 [Value.pointer none] 27)]) rfl (enters_of Tryz.func148 Zk rfl) ?_ ?_ ?_
 ·intro L D fn tmps w1 rr rd hrr hrd hfh hm1
  refine (c_chunk1 (L:=L) (b2:=b2) (b3:=b3) (cp:=c16) (A:=A16) (xs:=xs) (fun x:List EN×Array MapEntry×Nat=>(L,.loop rr)::(D,.deferred (some []))::(Bk p11 [Vi (xc x.1)] 3)::(Bk p10 [Pt pO] 27)::(Bk pO (cJ pF (min (max tr 0) 1000000) mO) 38)::(mO,Obj.map x.2.1 x.2.2)::[(Bk p7 [Vi 0] 30),(Bk p6 [Value.pointer none] 27)]) (fun z:List EN×Array MapEntry×Nat=>(L,.loop rd)::(D,.deferred (some []))::(Bk p11 [Vi (xc z.1)] 3)::(Bk p10 [Pt pO] 27)::(Bk pO (cJ pF (min (max tr 0) 1000000) mO) 38)::(mO,Obj.map z.2.1 z.2.2)::[(Bk p7 [Vi 11] 30),(Bk p6 [Value.pointer none] 27)]) (fun k x=>yA xs k=some x.1∧MapC Tryz.prog 3 x.2.1 x.2.2 (fR x.1)) (fun z=>xb s=none) q (by omega) hlc (by omega) ([],#[],0) ⟨rfl,by show MapC _ _ #[] 0 (fR []); rw [xJ]; exact MapC.empty⟩ (hm1.perm (List.perm_append_comm_assoc [_,_] [_,_] _)) ?_).mono ?_
  ·rintro k ⟨Lz,es,ck⟩ w2 hk ⟨hop,hMC⟩ hm2
   dsimp only at hop hMC hm2
   subst hrr hrd
   obtain ⟨b0,o0,hA0,hD0,hcell⟩:=ye hr16 (by omega)
   obtain ⟨E,hE⟩:∃ E,s9 xs (10*k)=E:=⟨_,rfl⟩
   have hC:∀ j,j < 10→wb16.cell? ⟨b0,o0+10*k*1+j*1,none⟩=some (Vi (xs.getD (10*k+j) 0))∧aj (xs.getD (10*k+j) 0):=fun j hj=>by
    have hlt:10*k+j < xs.length:=by omega
    obtain ⟨h1,h2⟩:=hcell (10*k+j) xs[10*k+j] (List.getElem?_eq_getElem hlt)
    rw [xA hlt,Nat.mul_one,Nat.mul_one,Nat.add_assoc]
    exact ⟨h1,h2⟩
   have hEa:E.1.okA:=by
    rw [← hE]
    exact ⟨⟨(hC 0 (by decide)).2,(hC 1 (by decide)).2,(hC 2 (by decide)).2,(hC 3 (by decide)).2,(hC 4 (by decide)).2,(hC 5 (by decide)).2⟩,(hC 6 (by decide)).2,(hC 7 (by decide)).2,(hC 8 (by decide)).2⟩
   have hEf:aj E.2:=by rw [← hE]; exact (hC 9 (by decide)).2
   have hA4:A16.map (fun a=>a.add (10*k*1))=some ⟨b0,o0+10*k*1,none⟩:=by rw [hA0,Option.map_some]; simp [Addr.add]
   refine AY (m:=1) (hm2.perm (List.perm_append_comm_assoc [_,_] [_] _)) hfh rfl ?_
   refine kn (fG _) Zk ?_
   refine Rn [1,13] ?_
   refine t_k ?_
   refine s_beginG rfl ?_
   intro lb hlb
   refine Ae ?_
   refine vK ?_
   refine ri_draw (fG _) (by repeat (first | exact no_round | refine no_then ?_ | refine no_block ?_)) 34 [(true,0),(true,1),(true,2),(true,3),(true,4),(true,5),(true,6),(true,7),(true,8),(true,9),(true,10),(true,11),(true,12),(true,13),(true,14),(true,15),(true,16),(true,17),(true,18),(true,19),(true,20),(true,21),(true,22),(true,23),(true,24),(true,25),(true,26),(true,27),(true,28),(true,29),(true,30),(true,31),(true,32),(false,33)] Zk Zk Zk ?_
   refine Xm ?_
   refine Xv rfl (ae (j:=0) ij cT (congrArg (fun A:Option Addr=>some (Value.slice A 10 10)) hA4) rfl Zo rfl) (Xl rfl u3 rfl (an (v:=Vi E.1.id) (s:=(wb16,a7 [(Bk p7 [Vi 0] 30),(Bk p6 [Value.pointer none] 27)])) Zh (fun q hq he=>by have:=hm16.lt hq; omega) (by rw [← hE]; exact (hC 0 (by decide)).1)) (Xm ?_))
   refine Xv rfl (ae (j:=1) ij cT (congrArg (fun A:Option Addr=>some (Value.slice A 10 10)) hA4) rfl Zo rfl) (Xl rfl u3 rfl (an (v:=Vi E.1.fund) (s:=(wb16,a7 [(Bk p7 [Vi 0] 30),(Bk p6 [Value.pointer none] 27)])) Zh (fun q hq he=>by have:=hm16.lt hq; omega) (by rw [← hE]; exact (hC 1 (by decide)).1)) (Xm ?_))
   refine Xv rfl (ae (j:=2) ij cT (congrArg (fun A:Option Addr=>some (Value.slice A 10 10)) hA4) rfl Zo rfl) (Xl rfl u3 rfl (an (v:=Vi E.1.src) (s:=(wb16,a7 [(Bk p7 [Vi 0] 30),(Bk p6 [Value.pointer none] 27)])) Zh (fun q hq he=>by have:=hm16.lt hq; omega) (by rw [← hE]; exact (hC 2 (by decide)).1)) (Xm ?_))
   refine Xv rfl (ae (j:=3) ij cT (congrArg (fun A:Option Addr=>some (Value.slice A 10 10)) hA4) rfl Zo rfl) (Xl rfl u3 rfl (an (v:=Vi E.1.num) (s:=(wb16,a7 [(Bk p7 [Vi 0] 30),(Bk p6 [Value.pointer none] 27)])) Zh (fun q hq he=>by have:=hm16.lt hq; omega) (by rw [← hE]; exact (hC 3 (by decide)).1)) (Xv rfl (aH (places:=[(0,1),(1,1)]) l9 pV Zk rfl rfl) (Xm ?_)))
   refine Xv rfl (ae (j:=4) ij cT (congrArg (fun A:Option Addr=>some (Value.slice A 10 10)) hA4) rfl Zo rfl) (Xl rfl u3 rfl (an (v:=Vi E.1.copies) (s:=(wb16,a7 [(Bk p7 [Vi 0] 30),(Bk p6 [Value.pointer none] 27)])) Zh (fun q hq he=>by have:=hm16.lt hq; omega) (by rw [← hE]; exact (hC 4 (by decide)).1)) (Xm ?_))
   refine Xv rfl (ae (j:=5) ij cT (congrArg (fun A:Option Addr=>some (Value.slice A 10 10)) hA4) rfl Zo rfl) (Xl rfl u3 rfl (an (v:=Vi E.1.price) (s:=(wb16,a7 [(Bk p7 [Vi 0] 30),(Bk p6 [Value.pointer none] 27)])) Zh (fun q hq he=>by have:=hm16.lt hq; omega) (by rw [← hE]; exact (hC 5 (by decide)).1)) (Xm ?_))
   refine Xv rfl (ae (j:=6) ij cT (congrArg (fun A:Option Addr=>some (Value.slice A 10 10)) hA4) rfl Zo rfl) (Xl rfl u3 rfl (an (v:=Vi E.1.prom) (s:=(wb16,a7 [(Bk p7 [Vi 0] 30),(Bk p6 [Value.pointer none] 27)])) Zh (fun q hq he=>by have:=hm16.lt hq; omega) (by rw [← hE]; exact (hC 6 (by decide)).1)) (Xm ?_))
   refine Xv rfl (ae (j:=7) ij cT (congrArg (fun A:Option Addr=>some (Value.slice A 10 10)) hA4) rfl Zo rfl) (Xl rfl u3 rfl (an (v:=Vi E.1.paid) (s:=(wb16,a7 [(Bk p7 [Vi 0] 30),(Bk p6 [Value.pointer none] 27)])) Zh (fun q hq he=>by have:=hm16.lt hq; omega) (by rw [← hE]; exact (hC 7 (by decide)).1)) (Xm ?_))
   refine Xv rfl (ae (j:=8) ij cT (congrArg (fun A:Option Addr=>some (Value.slice A 10 10)) hA4) rfl Zo rfl) (Xl rfl u3 rfl (an (v:=Vi E.1.st) (s:=(wb16,a7 [(Bk p7 [Vi 0] 30),(Bk p6 [Value.pointer none] 27)])) Zh (fun q hq he=>by have:=hm16.lt hq; omega) (by rw [← hE]; exact (hC 8 (by decide)).1)) (Xv (v:=Value.agg E.1.cells.toArray) rfl (aH (cs:=E.1.cells) (places:=[(0,1),(1,1),(2,2),(4,1),(5,1),(6,1),(7,1),(8,1)]) f4 gI Zk rfl rfl) (Xm ?_)))
   refine Xv rfl (ae (j:=9) ij cT (congrArg (fun A:Option Addr=>some (Value.slice A 10 10)) hA4) rfl Zo rfl) (Xl rfl u3 rfl (an (v:=Vi E.2) (s:=(wb16,a7 [(Bk p7 [Vi 0] 30),(Bk p6 [Value.pointer none] 27)])) Zh (fun q hq he=>by have:=hm16.lt hq; omega) (by rw [← hE]; exact (hC 9 (by decide)).1)) (Xv (v:=Value.agg (bu E.1 E.2).toArray) rfl (aH (cs:=bu E.1 E.2) (places:=[(0,9),(9,1)]) Aa f0 Zk rfl rfl) ?_))
   refine Rn [28,32,13] fun p13=>?_
   refine nw ?_
   refine vK ?_
   refine vK ?_
   refine kn (fG _) Zk ?_
   refine Xv rfl (bS (e:=100) (fz:=(0,0)) (cs:=(bu E.1 E.2).toArray) Aa rfl rfl (.head _) wL) (Xh rfl Tryz.func100 rfl (fun w1 hw1=>g_rightO E.1 E.2 w1 hEa hEf (hL.later hw1.b)) fun b72 hb72=>?_)
   refine Rn [43,0,22,22] fun b73 hb73=>?_
   refine Xi rfl rfl rfl (fun hg0=>by subst hg0; (try simp only [Qy]); exact aW u3 rfl rfl (aa (vs:=bu E.1 E.2) (v:=Vi E.1.id) (.head _) rfl)) (Xi rfl rfl rfl (fun hg0=>by subst hg0; (try simp only [Qy]); exact aW u3 rfl rfl (aa (vs:=[Vi (xc Lz)]) Zh rfl)) ?_)
   refine Rn [67,25,13] fun b79 hb79 b80 hb80=>?_
   refine nw ?_
   refine AH rfl (fun hc80=>?_) (fun hc80=>?_)
   ·simp only [hb80,hb79,hb73,hb72,Qz,ne_eq] at hc80
    have hF:xb s=none:=by
     rw [hG]
     refine zL (k:=k+1) ?_ (by omega)
     rw [zD hop,hE,if_neg (by rintro ⟨h1,h2⟩; rcases hc80 with h | h; (· exact h h1); (· omega))]
    refine vK ?_
    refine kn (fG _) Zk ?_
    refine aG (cs:=[Value.pointer none]) (off:=0) (e:=27) (l2:=[]) [(Bk p13 (bu E.1 E.2) 100),(L,.loop lb),(b3,_),(b2,_),(D,_),(Bk p11 [Vi (xc Lz)] 3),(Bk p10 [Pt pO] 27),(Bk pO (cJ pF (min (max tr 0) 1000000) mO) 38),(mO,Obj.map es ck),(Bk p7 [Vi 0] 30)] rfl rfl rfl rfl Ao rfl (by show 1≤1; decide) ?_
    refine aG (cs:=[Vi 0]) (off:=0) (e:=30) (l2:=[(Bk p6 [Value.pointer none] 27)]) [(Bk p13 (bu E.1 E.2) 100),(L,.loop lb),(b3,_),(b2,_),(D,_),(Bk p11 [Vi (xc Lz)] 3),(Bk p10 [Pt pO] 27),(Bk pO (cJ pF (min (max tr 0) 1000000) mO) 38),(mO,Obj.map es ck)] rfl rfl rfl rfl Ap rfl (by show 1≤1; decide) ?_
    refine Ze ?_
    refine nw ?_
    refine wi_ret ?_
    refine Rn [8,15] ?_
    subst hlb
    refine s_less Ls ?_
    exact s_roundR (fun w' hm=>⟨.inr (Lz,es,ck),rfl,hF,hm.perm (List.perm_append_comm_assoc [_] [_,_] _)⟩)
   simp only [hb80,hb79,hb73,hb72,Qz,ne_eq] at hc80
   have hlst:xc Lz < E.1.id:=by have:=hc80.2; omega
   have hop1:yA xs (k+1)=some (Lz++[E]):=by
    rw [zD hop,hE,if_pos ⟨hc80.1,hlst⟩]
   refine AG ?_
   refine nw ?_
   refine vK ?_
   refine kn (fG _) Zk ?_
   refine Rn [4,4] ?_
   refine Xl rfl u3 rfl (aa (vs:=bu E.1 E.2) (v:=Vi E.1.id) (.head _) rfl) ?_
   refine aG (cs:=[Vi (xc Lz)]) (off:=0) (e:=3) (l2:=(Bk p10 [Pt pO] 27)::(Bk pO (cJ pF (min (max tr 0) 1000000) mO) 38)::(mO,Obj.map es ck)::[(Bk p7 [Vi 0] 30),(Bk p6 [Value.pointer none] 27)]) [(Bk p13 (bu E.1 E.2) 100),(L,.loop lb),(b3,_),(b2,_),(D,_)] rfl rfl rfl rfl cT rfl (by show 1≤1; decide) ?_
   refine Ze ?_
   refine nw ?_
   refine kn (fG _) Zk ?_
   refine Xl rfl AD rfl (aa (vs:=[Pt pO]) Zh rfl) (Xv rfl (bS (e:=100) (fz:=(0,0)) (cs:=(bu E.1 E.2).toArray) Aa rfl rfl (.head _) wL) ?_)
   refine aI (τ:=Array MapEntry×Nat) (v:=Value.tuple #[]) (fun q=>MapC Tryz.prog 3 q.1 q.2 (fR (Lz++[E]))) (fun q=>[(Bk p13 (bu E.1 E.2) 100),(L,.loop lb),(Bk b3 [Vi 10] 3),(Bk b2 [Value.slice A16 xs.length c16] 44),(D,.deferred (some [])),(Bk p11 [Vi E.1.id] 3),(Bk p10 [Pt pO] 27)]++(Bk pO (cJ pF (min (max tr 0) 1000000) mO) 38)::(mO,Obj.map q.1 q.2)::[(Bk p7 [Vi 0] 30),(Bk p6 [Value.pointer none] 27)]) rfl rfl Tryz.func53 Zk rfl (fun w1 hw1=>(xN (l1:=[(Bk p13 (bu E.1 E.2) 100),(L,.loop lb),(Bk b3 [Vi 10] 3),(Bk b2 [Value.slice A16 xs.length c16] 44),(D,.deferred (some [])),(Bk p11 [Vi E.1.id] 3),(Bk p10 [Pt pO] 27)]) E.1 E.2 hw1 hMC hEa.1.1).mono fun e w2 ⟨h1,q,h2,h3⟩=>⟨h1,q,by rw [← opO_put hop hlst]; exact h2,h3⟩) fun q86 hq86=>?_
   refine Rn [13,27] ?_
   subst hlb
   refine s_less Ls ?_
   exact xt (fun w' hm=>⟨.inl (Lz++[E],q86.1,q86.2),rfl,⟨hop1,hq86⟩,by
    have hm2:=hm.perm (List.perm_append_comm_assoc [_] [_,_] _)
    show Mem w' ((Bk b3 [Vi 10] 3)::(Bk b2 [Value.slice A16 xs.length c16] 44)::(L,_)::(D,_)::(Bk p11 [Vi (xc (Lz++[E]))] 3)::_) _
    rw [zF]
    exact hm2⟩)
  rintro e w2 ⟨h1,⟨x,h2,h3⟩ | ⟨z,h2,h3⟩⟩
  ·exact ⟨h1,.inl ⟨x,h2,h3.perm (List.perm_append_comm_assoc [_,_] [_,_] _)⟩⟩
  exact ⟨h1,.inr ⟨z,h2,h3.perm (List.perm_append_comm_assoc [_,_] [_,_] _)⟩⟩
 ·rintro D ⟨Lz,es,ck⟩ ⟨hop,hMC⟩
  dsimp only at hop hMC ⊢
  refine Ag ?_
  refine xu ?_
  refine sd_seq ?_
  refine za ?_
  refine su rfl (aW AD rfl rfl (aa (vs:=[Pt pO]) Zh rfl)) ?_
  refine zV (cs:=[Value.pointer none]) (off:=0) (e:=27) (l2:=[]) [(D,_),(b3,_),(b2,_),(Bk p11 [Vi (xc Lz)] 3),(Bk p10 [Pt pO] 27),(Bk pO (cJ pF (min (max tr 0) 1000000) mO) 38),(mO,Obj.map es ck),(Bk p7 [Vi 0] 30)] rfl rfl rfl Ao rfl (by show 1≤1; decide) ?_
  refine zV (cs:=[Vi 0]) (off:=0) (e:=30) (l2:=[(p6,_)]) [(D,_),(b3,_),(b2,_),(Bk p11 [Vi (xc Lz)] 3),(Bk p10 [Pt pO] 27),(Bk pO (cJ pF (min (max tr 0) 1000000) mO) 38),(mO,Obj.map es ck)] rfl rfl rfl Ap rfl (by show 1≤1; decide) ?_
  refine AK ?_
  refine xu ?_
  refine sd_ret ?_
  exact ret2M (m:=2) (b:=p6) (b2:=p7) (v:=Pt pO) (v2:=Vi 0) rfl rfl rfl AD rfl u30 rfl (aa (vs:=[Pt pO]) Zh rfl) (aa (vs:=[Vi 0]) Zh rfl) (fun w' hm=>⟨some (pO,mO,es,ck,Lz),rfl,hG.trans hop,(fun z hz=>by cases hz; exact hMC),hm.less (.cons _ (.cons _ (.cons _ (.cons _ (.cons_cons _ (.cons_cons _ (List.nil_sublist _))))))) (fun _ h=>.tail _ h)⟩)
 rintro D ⟨Lz,es,ck⟩ hF
 dsimp only at hF ⊢
 exact ret2M (m:=2) (b:=p6) (b2:=p7) (v:=.pointer none) (v2:=Vi 11) rfl rfl rfl AD rfl u30 rfl (aa (vs:=[Value.pointer none]) Zh rfl) (aa (vs:=[Vi 11]) Zh rfl) (fun w' hm=>⟨none,rfl,hF,(fun z hz=>by cases hz),hm.less (List.nil_sublist _) (fun _ h=>.tail _ h)⟩)
end Go.Proofs.YtifekogdhjabaaaGreatDoor
