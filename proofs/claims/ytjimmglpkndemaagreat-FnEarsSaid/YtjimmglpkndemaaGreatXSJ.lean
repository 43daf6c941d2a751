/- The reference finds the shortest ways, too. Conditions: none. -/
import Derived.Test.YtjimmglpkndemaaGreatXSA
namespace Go.Proofs.YtjimmglpkndemaaGreatC
open Int renaming reduceLE -> af, reduceLT -> ah, reduceEq -> ai, reduceGT -> aj, reduceGE -> ak, reduceAdd -> ap, reduceSub -> aq, reduceMul -> au, reduceNeg -> av
set_option linter.unusedVariables false
set_option linter.unusedSimpArgs false
theorem DY:xd=(List.range 6).map λi:Nat=>(i:Int)+1:=rfl
theorem Ia(a b:List Int)(ha:a.length<=1048576)(hb:b.length<=1048576):Dz [.l (a.map aD),.l (b.map aD)]=some [.l ((AP a b).map aD)]:=by
 rw[akF];simp(disch:=omega) only[↓pq,↓pj,ps,pz,↓reduceIte,af,ah,ai,aj,ak,ap,aq,au,av,kI_,MO]
 refine(rZ 6 (λi c=>[.l (c.map aD),ii (i+1)]) (λc i=>if(a.contains ((i:Int)+1)||b.contains ((i:Int)+1))=true then c++[(i:Int)+1]else c) (λc=>some [T.l (c.map aD)]) [] (λi c=>c.length<=i) rfl (dh (by omega)) (by simp) ?_ ?_).trans ?_
 ·intro i c hi hc
  refine⟨by split<;>(try simp)<;>omega,λq=>?_⟩
  have aO:(i:Int)+1<=6:=by omega
  cases h1:a.contains ((i:Int)+1)<;>cases h2:b.contains ((i:Int)+1)<;>simp(disch:=omega) only[↓pq,↓pj,ps,pz,↓reduceIte,af,ah,ai,aj,ak,ap,aq,au,av,kI_,aO,Xy _ _ ha,Xy _ _ hb,h1,h2,Bool.or_true,Bool.or_false,cI]
 ·intro c q hc
  simp(disch:=omega) only[↓pq,↓pj,ps,pz,↓reduceIte,af,ah,ai,aj,ak,ap,aq,au,av,kI_,]
 ·rw[GC (λi:Nat=>a.contains ((i:Int)+1)||b.contains ((i:Int)+1)) (λi:Nat=>(i:Int)+1),List.nil_append]
  unfold AP
  rw[DY,List.filter_map]
  rfl
theorem aop(a b:Int)(t:T)(a' b':Int)(t':T):QL [ii a,ii b,t,ii a',ii b',t']=some [bb (decide (b<b'))]:=by
 rw[akN];simp(disch:=omega) only[↓pq,↓pj,ps,pz,↓reduceIte,af,ah,ai,aj,ak,ap,aq,au,av,MS]
theorem XJ(a b:Int)(l:List Int)(a' b':Int)(l':List Int)(h:l.length<=1048576)(h':l'.length<=1048576):GN [ii a,ii b,.l (l.map aD),ii a',ii b',.l (l'.map aD)]=some (br (jI ⟨a,b,l⟩ ⟨a',b',l'⟩)):=by
 rw[akP];simp(disch:=omega) only[↓pq,↓pj,ps,pz,↓reduceIte,af,ah,ai,aj,ak,ap,aq,au,av,MT,aop,On _ _ _ h,On _ _ _ h',Ia _ _ h h']
 unfold jI
 by_cases h1:b<b'
 ·have h2:b'>b:=h1
  simp only[h1,h2,if_true];rfl
 ·have h2:¬(b'>b):=h1
  by_cases h3:b'<b
  ·have h4:b>b':=h3
   simp only[h1,h2,h3,h4,if_true,if_false];rfl
  ·have h4:¬(b>b'):=h3
   simp only[h1,h2,h3,h4,if_false];rfl
def uM(W:List Way):List Int:=vp λi=>if i=0 then 0 else if(gt W (i:Int)).to=0 then -1 else(gt W (i:Int)).cost
def xe(W:List Way):List (List Int):=vp λi=>(gt W (i:Int)).aF
def zw(D:List Int):List Bool:=vp λi=>D.contains (i:Int)
theorem DZ(W:List Way){v:Int}(h:1<=v)(h':v<=6):gt (uM W) v=if(gt W v).to=0 then -1 else(gt W v).cost:=by
 unfold uM
 rw[OB _ (by omega) (by omega),if_neg (by omega),show((v.toNat:Nat):Int)=v by omega]
theorem OD(W:List Way){v:Int}(h:0<=v)(h':v<=6):gt (xe W) v=(gt W v).aF:=by
 unfold xe
 rw[OB _ h (by omega),show((v.toNat:Nat):Int)=v by omega]
theorem OE(D:List Int){v:Int}(h:0<=v)(h':v<=6):gt (zw D) v=D.contains v:=by
 unfold zw
 rw[OB _ h (by omega),show((v.toNat:Nat):Int)=v by omega]
theorem OG(W:List Way):(uM W).length=7:=DW _
theorem OH(W:List Way):(xe W).length=7:=DW _
theorem OI(D:List Int):(zw D).length=7:=DW _
theorem D0{W:List Way}(hl:W.length=7){i:Nat}(hi:i<6){w:Way}(ht:w.to≠0):uM (W.set (i+1) w)=(uM W).set (i+1) w.cost:=by
 unfold uM
 rw[DX]
 refine AV λj hj=>?_
 rw[vq hl hi (by omega)]
 by_cases h:j=i+1
 ·subst h
  simp[ht]
 ·rw[if_neg (show¬((j:Int)=(i:Int)+1) by omega),if_neg h]
theorem AX{W:List Way}(hl:W.length=7){i:Nat}(hi:i<6)(w:Way):xe (W.set (i+1) w)=(xe W).set (i+1) w.aF:=by
 unfold xe
 rw[DX]
 refine AV λj hj=>?_
 rw[vq hl hi (by omega)]
 by_cases h:j=i+1
 ·subst h
  rw[if_pos (by simp),if_pos rfl]
 ·rw[if_neg (show¬((j:Int)=(i:Int)+1) by omega),if_neg h]
theorem XK{W:List Way}(hl:W.length=7){i:Nat}(hi:i<6){w:Way}(ht:w.to≠0)(h0:(gt W ((i:Int)+1)).to≠0)(hc:w.cost=(gt W ((i:Int)+1)).cost):uM (W.set (i+1) w)=uM W:=by
 rw[D0 hl hi ht]
 unfold uM
 rw[DX]
 refine AV λj hj=>?_
 by_cases h:j=i+1
 ·subst h
  rw[if_pos rfl,if_neg (by omega),if_neg (by simpa using h0),hc]
  simp
 ·rw[if_neg h]
theorem aoq(D:List Int){b:Int}(h:1<=b)(h':b<=6):(zw D).set b.toNat true=zw (D++[b]):=by
 unfold zw
 rw[DX]
 refine AV λj hj=>?_
 by_cases e:j=b.toNat
 ·rw[if_pos e]
  have:(j:Int)=b:=by omega
  rw[this]
  simp
 ·rw[if_neg e]
  have:¬((j:Int)=b):=by omega
  rw[Bool.eq_iff_iff,List.contains_iff_mem,List.contains_iff_mem]
  simp[this]
theorem aor{W:List Way}(h:W.length=7):W=vp λi=>gt W (i:Int):=by
 refine List.ext_getElem (by rw[DW,h]) λi h1 h2=>?_
 simp only[vp,List.getElem_map,List.getElem_range]
 rw[ed h1]
theorem aos{s:List ay}(hs:eA s=true){ar fr:Int}{F:aB->aB}(st:Int->List Way->List Int->List T){out:List Way->Option (List T)}
  (hA:∀W D q,gU fr W D->D.length<6->dT W D=0->F q (st (D.length+1) W D)=q (st 7 W D))
  (hB:∀W D q,gU fr W D->D.length<6->dT W D≠0->F q (st (D.length+1) W D)=q (st (D.length+1+1) (rD s ar fr (dT W D) W) (D++[dT W D])))
  (fin:∀W D q,gU fr W D->dT W D=0->F q (st 7 W D)=out W):
  ∀k W D R,gU fr W D->D.length+k=6->k+1<R->iter F R (st (D.length+1) W D)=out (sj s ar fr k W D):=by
 intro k
 induction k with
 |zero=>
  intro W D R h hk hR
  cases R with
  |zero=>omega
  |succ R=>
   have hb:=h.full (by omega)
   unfold iter
   rw[show((D.length:Int)+1)=7 by omega]
   exact fin W D _ h hb
 |succ k ih=>
  intro W D R h hk hR
  cases R with
  |zero=>omega
  |succ R=>
   unfold iter
   by_cases hb:dT W D=0
   ·rw[hA W D _ h (by omega) hb]
    cases R with
    |zero=>omega
    |succ R=>
     unfold iter
     rw[fin W D _ h hb]
     unfold sj
     rw[if_pos hb]
   ·rw[hB W D _ h (by omega) hb]
    have:=ih _ _ R (h.step hs ar hb) (by simp;omega) (by omega)
    rw[show(((D++[dT W D]).length:Int)+1)=D.length+1+1 by simp]at this
    rw[this]
    conv=>rhs;unfold sj
    rw[if_neg hb]
theorem aot{W:List Way}{D:List Int}{fr:Int}(h:gU fr W D)(hb:dT W D=0):yn W=((List.range 6).filter λi:Nat=>D.contains ((i:Int)+1)).map λi:Nat=>(⟨(i:Int)+1,(gt W ((i:Int)+1)).cost,(gt W ((i:Int)+1)).aF⟩:Way):=by
 have hD:=((Rz W D).resolve_right λe=>by omega).2
 have e:W=gt W 0::(List.range 6).map λi:Nat=>gt W ((i:Int)+1):=(aor h.ok.len).trans rfl
 have h0:(gt W 0).to=0:=(h.ok.to 0 (by omega) (by omega)).elim id id
 have hf:yn W=(((List.range 6).map λi:Nat=>gt W ((i:Int)+1)).filter λw=>!(w.to==0)):=by
  unfold yn
  conv=>lhs;rw[e]
  rw[List.filter_cons,if_neg (by simp[h0])]
 rw[hf,List.filter_map]
 have hp:∀i:Nat,i∈List.range 6->((λw:Way=>!(w.to==0))∘λi:Nat=>gt W ((i:Int)+1)) i=D.contains ((i:Int)+1):=by
  intro i hi
  have hi:i<6:=by simpa using hi
  rw[Bool.eq_iff_iff,List.contains_iff_mem]
  simp only[Function.comp,Bool.not_eq_true',beq_eq_false_iff_ne]
  exact⟨λh1=>hD _ (by omega) (by omega) h1,λh1=>(h.mem _ h1).2⟩
 rw[List.filter_congr hp]
 refine List.map_congr_left λi hi=>?_
 obtain⟨h1,h2⟩:=List.mem_filter.1 hi
 have h1:i<6:=by simpa using h1
 have h3:=(h.mem _ (List.contains_iff_mem.1 h2)).2
 have h4:=(h.ok.to ((i:Int)+1) (by omega) (by omega)).resolve_left h3
 have hw:∀(w:Way) (n:Int),w.to=n->w=⟨n,w.cost,w.aF⟩:=by intro w n hn;subst hn;rfl
 exact hw _ _ h4
set_option maxHeartbeats 1600000 in
theorem OJ(s:List ay)(ar fr:Int)(h:s.length<=1048576)(hn:bh s):BE [.l (s.map aC),ii ar,ii fr]=some [.l ((aH s ar fr).map br)]:=by
 obtain⟨c0,c1,c2,c3,c4,c6,c7,e⟩:=Ox s ar fr h
 rw[akH];simp(disch:=omega) only[↓pq,↓pj,ps,pz,↓reduceIte,af,ah,ai,aj,ak,ap,aq,au,av,ql,qm,qn,pA,qo,MP,e,HH _ h hn,Jo]
 unfold aH
 cases hs:eA s with
 |false=>simp
 |true=>
 cases h6:jO fr 1 6 with
 |false=>simp
 |true=>
 have XH:=aZ.1 h6
 by_cases hq:0<=iz s ar fr
 case neg=>simp[hq]
 rw[if_pos (show(true=true∧true=true∧0<=iz s ar fr) from⟨rfl,rfl,hq⟩)]
 have m1:=yl (enc:=aD) (n:=7) (x:=0) (vs:=[ii 0]) (by decide) rfl
 have m2:=yl (enc:=zv) (n:=7) (x:=[]) (vs:=[.l []]) (by decide) rfl
 have m3:=yl (enc:=iF) (n:=7) (x:=false) (vs:=[bb false]) (by decide) rfl
 simp only[not_true_eq_false,if_false,hq]
 rw[aod _ _ h hn hs,Vm]
 rw[show Prim.ev .mk [ii 7,ii 7,ii 0]=some (.l ((List.replicate 7 (0:Int)).map aD)) from m1,fU,show Prim.ev .mk [ii 7,ii 7,.l []]=some (.l ((List.replicate 7 ([]:List Int)).map zv)) from m2,fU,
  show Prim.ev .mk [ii 7,ii 7,bb false]=some (.l ((List.replicate 7 false).map iF)) from m3,fU]
 have Jw:∀w:List Int,fo w->Dz [.l [],.l (w.map aD)]=some [.l (w.map aD)]:=λw hw=>by
  have:=Ia [] w (by simp) (by have:=sf hw;omega)
  rw[Xx hw]at this
  exact this
 have hML:=an' s ar
 have sel:∀W D q,gU fr W D->D.length<6->pA rounds Dz (ii fr) (T.l []) (T.l (List.map aD (DU s ar))) q [ii (D.length+1),.l ((xe W).map zv),.l ((zw D).map iF),.l ((uM W).map aD)]=
   if dT W D=0 then q [ii 7,.l ((xe W).map zv),.l ((zw D).map iF),.l ((uM W).map aD)]
   else q [ii (D.length+1+1),.l ((xe (rD s ar fr (dT W D) W)).map zv),.l ((zw (D++[dT W D])).map iF),.l ((uM (rD s ar fr (dT W D) W)).map aD)]:=by
  intro W D q hI hD
  have hle:(D.length:Int)+1<=6:=by omega
  have hW:=hI.ok
  have XI:=hW.len
  have l1:=OI D
  have l2:=OG W
  have l3:=OH W
  simp(disch:=omega) only[↓pq,↓pj,ps,pz,↓reduceIte,af,ah,ai,aj,ak,ap,aq,au,av,ql,qm,qn,pA,qo,hle]
  refine rZ 6 (λi b=>[ii b,ii (i+1)]) (EW W D) (λb=>if b=0 then q [ii 7,.l ((xe W).map zv),.l ((zw D).map iF),.l ((uM W).map aD)]
   else q [ii (D.length+1+1),.l ((xe (rD s ar fr b W)).map zv),.l ((zw (D++[b])).map iF),.l ((uM (rD s ar fr b W)).map aD)]) 0 (λi b=>b=(List.range i).foldl (EW W D) 0∧0<=b∧b<=6∧(b≠0->(gt W b).to≠0)) rfl (dh (by omega)) (by simp) ?_ ?_
  ·intro i b hi ⟨Bu,Kv,RB,jf⟩
   refine⟨⟨by rw[List.range_succ,List.foldl_append,<-Bu];rfl,?_⟩,λw=>?_⟩
   ·unfold EW
    split
    ·rename_i hx;exact⟨by omega,by omega,λ_=>hx.1⟩
    ·exact⟨Kv,RB,jf⟩
   ·have aO:(i:Int)+1<=6:=by omega
    have qE:=DZ W (v:=(i:Int)+1) (by omega) aO
    have fI:=OE D (v:=(i:Int)+1) (by omega) aO
    have hco:=hW.cost ((i:Int)+1) (by omega) (by omega)
    unfold EW
    cases EX:D.contains ((i:Int)+1)with
    |true=>simp(disch:=omega) only[↓pq,↓pj,ps,pz,↓reduceIte,af,ah,ai,aj,ak,ap,aq,au,av,ql,qm,qn,pA,qo,aO,fI,EX];simp
    |false=>
     by_cases q1:(gt W ((i:Int)+1)).to=0
     ·simp(disch:=omega) only[↓pq,↓pj,ps,pz,↓reduceIte,af,ah,ai,aj,ak,ap,aq,au,av,ql,qm,qn,pA,qo,aO,fI,EX,qE,q1,cI]
      simp
     ·have SG:(gt W ((i:Int)+1)).cost>=0:=hco.1
      by_cases q2:b=0
      ·simp(disch:=omega) only[↓pq,↓pj,ps,pz,↓reduceIte,af,ah,ai,aj,ak,ap,aq,au,av,ql,qm,qn,pA,qo,aO,fI,EX,qE,q1,q2,SG,cI]
       simp
      ·have qK:=DZ W (v:=b) (by omega) RB
       have sk:=jf q2
       by_cases q3:(gt W ((i:Int)+1)).cost<(gt W b).cost
       ·simp(disch:=omega) only[↓pq,↓pj,ps,pz,↓reduceIte,af,ah,ai,aj,ak,ap,aq,au,av,ql,qm,qn,pA,qo,aO,fI,EX,qE,qK,sk,q1,q2,q3,SG,cI]
        simp
       ·simp(disch:=omega) only[↓pq,↓pj,ps,pz,↓reduceIte,af,ah,ai,aj,ak,ap,aq,au,av,ql,qm,qn,pA,qo,aO,fI,EX,qE,qK,sk,q1,q2,q3,SG,cI]
        simp
  ·intro b w ⟨Bu,Kv,RB,jf⟩
   by_cases hb:b=0
   ·simp(disch:=omega) only[↓pq,↓pj,ps,pz,↓reduceIte,af,ah,ai,aj,ak,ap,aq,au,av,ql,qm,qn,pA,qo,hb]
   have hbb:b=dT W D:=Bu
   have lR:1<=b∧b<=6:=by omega
   obtain⟨g1,g2,g3,g4⟩:=(Rz W D).resolve_left λe=>hb (hbb.trans e.1)
   rw[<-hbb]at g1 g2 g3 g4
   have qK:=hW.cost b (by omega) (by omega)
   have l4:=OI (D++[b])
   have aou:fr∈D++[b]:=by
    rcases hI.first with⟨e,hf⟩|hf
    ·rw[hf b g1.1 g1.2 g2];simp
    ·simp[hf]
   simp(disch:=omega) only[↓pq,↓pj,ps,pz,↓reduceIte,af,ah,ai,aj,ak,ap,aq,au,av,ql,qm,qn,pA,qo,hb,Ot,aoq D lR.1 lR.2]
   refine rZ 6 (λi W'=>[ii (i+1),.l ((xe W').map zv),.l ((uM W').map aD)]) (oG s ar fr b) (λW'=>q [ii (D.length+1+1),.l ((xe W').map zv),.l ((zw (D++[b])).map iF),.l ((uM W').map aD)]) W (λi W'=>pd W' (1000*D.length+1000)∧gt W' b=gt W b∧∀v∈D,gt W' v=gt W v) rfl (dh (by omega)) ⟨hW.mono (by omega),rfl,λ_ _=>rfl⟩ ?_ ?_
   ·intro i W' hi ⟨uY,pO,hgD⟩
    have pD:i<6:=by omega
    have cC:=H8 hs ar fr lR (by omega) uY (by rw[pO];exact qK.2) pD
    have aO:(i:Int)+1<=6:=by omega
    have lu:=uY.len
    have CO:=DT hs ar b ((i:Int)+1)
    have aon:=uY.cost b (by omega) (by omega)
    have aoo:=uY.cost ((i:Int)+1) (by omega) (by omega)
    have H9:=uY.aF b (by omega) (by omega)
    have B7:=uY.aF ((i:Int)+1) (by omega) (by omega)
    have hhl:=sf H9
    have au0:=sf B7
    have l5:=OG W'
    have l6:=OH W'
    have hM:=aoc hs ar (u:=b) (v:=(i:Int)+1) lR (by omega)
    have qE:=DZ W' (v:=(i:Int)+1) (by omega) aO
    have j3:=DZ W' (v:=b) lR.1 lR.2
    have sk:(gt W' b).to≠0:=by rw[pO];exact g2
    have fI:=OE (D++[b]) (v:=(i:Int)+1) (by omega) aO
    have v_:=OD W' (v:=(i:Int)+1) (by omega) aO
    have EY:=OD W' (v:=b) (by omega) lR.2
    have wu:((i:Int)+1).toNat=i+1:=by omega
    have nK:=uY.to ((i:Int)+1) (by omega) (by omega)
    have stay:((i:Int)+1∈D++[b])->du s ar b ((i:Int)+1)≠0->oG s ar fr b W' i=W':=by
     intro hm dI
     unfold oG
     by_cases e:du s ar b ((i:Int)+1)=0∨(i:Int)+1=fr
     ·rw[if_pos e]
     ·rw[if_neg e]
      rcases List.mem_append.1 hm with hm|hm
      ·have h1:=hgD _ hm
       have h2:=(hI.mem _ hm).2
       have h3:=hI.mono _ hm b g1.1 g1.2 g3 g2
       rw[h1,pO]
       rw[if_neg (by rintro(h4|h4);exact h2 h4;omega),if_neg (by omega)]
      ·rw[List.mem_singleton]at hm
       rw[hm,H7 hs]at dI
       exact absurd rfl dI
    refine⟨⟨cC.1,cC.2.trans pO,λv hv=>?_⟩,λw=>?_⟩
    ·rw[<-hgD v hv]
     by_cases e:v=(i:Int)+1
     ·by_cases e2:du s ar b ((i:Int)+1)=0
      ·unfold oG;rw[if_pos (.inl e2)]
      ·rw[stay (List.mem_append.2 (.inl (e▸hv))) e2]
     ·have Z4:=(hI.mem v hv).1
      unfold oG
      split
      ·rfl
      ·split
       ·rw[vq lu pD (by omega),if_neg e]
       ·split
        ·rw[vq lu pD (by omega),if_neg e]
        ·rfl
    by_cases q1:du s ar b ((i:Int)+1)=0
    ·simp(disch:=omega) only[↓pq,↓pj,ps,pz,↓reduceIte,af,ah,ai,aj,ak,ap,aq,au,av,ql,qm,qn,pA,qo,aO,hM,q1]
     unfold oG
     rw[if_pos (.inl q1)]
    cases q2:(D++[b]).contains ((i:Int)+1)with
    |true=>
     rw[stay (List.contains_iff_mem.1 q2) q1]
     simp(disch:=omega) only[↓pq,↓pj,ps,pz,↓reduceIte,af,ah,ai,aj,ak,ap,aq,au,av,ql,qm,qn,pA,qo,aO,hM,q1,fI,q2]
    |false=>
     have q2':¬((i:Int)+1=fr):=λe=>by
      have:=List.contains_iff_mem.2 aou
      rw[<-e,q2]at this;cases this
     by_cases q3:b=fr
     ·skip
      have l8:oG s ar fr b W' i=(if(gt W' ((i:Int)+1)).to=0∨(gt W' b).cost+du s ar b ((i:Int)+1)<(gt W' ((i:Int)+1)).cost then W'.set (i+1) ⟨(i:Int)+1,(gt W' b).cost+du s ar b ((i:Int)+1),[(i:Int)+1]⟩
       else if(gt W' b).cost+du s ar b ((i:Int)+1)=(gt W' ((i:Int)+1)).cost then W'.set (i+1) (jI (gt W' ((i:Int)+1)) ⟨(i:Int)+1,(gt W' b).cost+du s ar b ((i:Int)+1),[(i:Int)+1]⟩)else W'):=by
       unfold oG
       rw[if_neg (by rintro(h1|h1);exact q1 h1;exact q2' h1),if_pos q3]
      rw[l8]
      by_cases q4:(gt W' ((i:Int)+1)).to=0
      ·rw[if_pos (.inl q4),AX lu pD,D0 lu pD (by show(i:Int)+1≠0;omega)]
       simp(disch:=omega) only[↓pq,↓pj,ps,pz,↓reduceIte,af,ah,ai,aj,ak,ap,aq,au,av,ql,qm,qn,pA,qo,aO,hM,q1,fI,q2,qE,j3,v_,EY,sk,eq_true q3,Jw _ (Jr (n:=(i:Int)+1) (by omega) (by omega)),DR,Ju,wu,H3,cI,q4]
      have EZ:¬((gt W' ((i:Int)+1)).cost<0):=by omega
      by_cases q5:(gt W' b).cost+du s ar b ((i:Int)+1)<(gt W' ((i:Int)+1)).cost
      ·rw[if_pos (.inr q5),AX lu pD,D0 lu pD (by show(i:Int)+1≠0;omega)]
       simp(disch:=omega) only[↓pq,↓pj,ps,pz,↓reduceIte,af,ah,ai,aj,ak,ap,aq,au,av,ql,qm,qn,pA,qo,aO,hM,q1,fI,q2,qE,j3,v_,EY,sk,eq_true q3,Jw _ (Jr (n:=(i:Int)+1) (by omega) (by omega)),DR,Ju,wu,H3,cI,q4,EZ,q5]
      rw[if_neg (by rintro(h1|h1);exact q4 h1;exact q5 h1)]
      by_cases q6:(gt W' b).cost+du s ar b ((i:Int)+1)=(gt W' ((i:Int)+1)).cost
      ·have OK:jI (gt W' ((i:Int)+1)) ⟨(i:Int)+1,(gt W' b).cost+du s ar b ((i:Int)+1),[(i:Int)+1]⟩=⟨(gt W' ((i:Int)+1)).to,(gt W' ((i:Int)+1)).cost,AP (gt W' ((i:Int)+1)).aF ([(i:Int)+1])⟩:=by
        unfold jI
        rw[if_neg (by show¬((gt W' b).cost+_>_);omega),if_neg (by show¬(_>(gt W' b).cost+_);omega)]
       rw[if_pos q6,OK,AX lu pD,XK (w:=⟨(gt W' ((i:Int)+1)).to,(gt W' ((i:Int)+1)).cost,AP (gt W' ((i:Int)+1)).aF [(i:Int)+1]⟩) lu pD q4 q4 rfl]
       have hu:=Ia (gt W' ((i:Int)+1)).aF ([(i:Int)+1]) (by omega) (by simp)
       have q5':¬((gt W' ((i:Int)+1)).cost<(gt W' ((i:Int)+1)).cost):=by omega
       simp(disch:=omega) only[↓pq,↓pj,ps,pz,↓reduceIte,af,ah,ai,aj,ak,ap,aq,au,av,ql,qm,qn,pA,qo,aO,hM,q1,fI,q2,qE,j3,v_,EY,sk,eq_true q3,Jw _ (Jr (n:=(i:Int)+1) (by omega) (by omega)),DR,Ju,wu,H3,cI,q4,EZ,q5,q5',q6,hu]
      ·rw[if_neg q6]
       simp(disch:=omega) only[↓pq,↓pj,ps,pz,↓reduceIte,af,ah,ai,aj,ak,ap,aq,au,av,ql,qm,qn,pA,qo,aO,hM,q1,fI,q2,qE,j3,v_,EY,sk,eq_true q3,Jw _ (Jr (n:=(i:Int)+1) (by omega) (by omega)),DR,Ju,wu,H3,cI,q4,EZ,q5,q6]
     ·skip
      have l8:oG s ar fr b W' i=(if(gt W' ((i:Int)+1)).to=0∨(gt W' b).cost+du s ar b ((i:Int)+1)<(gt W' ((i:Int)+1)).cost then W'.set (i+1) ⟨(i:Int)+1,(gt W' b).cost+du s ar b ((i:Int)+1),(gt W' b).aF⟩
       else if(gt W' b).cost+du s ar b ((i:Int)+1)=(gt W' ((i:Int)+1)).cost then W'.set (i+1) (jI (gt W' ((i:Int)+1)) ⟨(i:Int)+1,(gt W' b).cost+du s ar b ((i:Int)+1),(gt W' b).aF⟩)else W'):=by
       unfold oG
       rw[if_neg (by rintro(h1|h1);exact q1 h1;exact q2' h1),if_neg q3]
      rw[l8]
      by_cases q4:(gt W' ((i:Int)+1)).to=0
      ·rw[if_pos (.inl q4),AX lu pD,D0 lu pD (by show(i:Int)+1≠0;omega)]
       simp(disch:=omega) only[↓pq,↓pj,ps,pz,↓reduceIte,af,ah,ai,aj,ak,ap,aq,au,av,ql,qm,qn,pA,qo,aO,hM,q1,fI,q2,qE,j3,v_,EY,sk,eq_false q3,Jw _ H9,DR,Ju,wu,H3,cI,q4]
      have EZ:¬((gt W' ((i:Int)+1)).cost<0):=by omega
      by_cases q5:(gt W' b).cost+du s ar b ((i:Int)+1)<(gt W' ((i:Int)+1)).cost
      ·rw[if_pos (.inr q5),AX lu pD,D0 lu pD (by show(i:Int)+1≠0;omega)]
       simp(disch:=omega) only[↓pq,↓pj,ps,pz,↓reduceIte,af,ah,ai,aj,ak,ap,aq,au,av,ql,qm,qn,pA,qo,aO,hM,q1,fI,q2,qE,j3,v_,EY,sk,eq_false q3,Jw _ H9,DR,Ju,wu,H3,cI,q4,EZ,q5]
      rw[if_neg (by rintro(h1|h1);exact q4 h1;exact q5 h1)]
      by_cases q6:(gt W' b).cost+du s ar b ((i:Int)+1)=(gt W' ((i:Int)+1)).cost
      ·have OK:jI (gt W' ((i:Int)+1)) ⟨(i:Int)+1,(gt W' b).cost+du s ar b ((i:Int)+1),(gt W' b).aF⟩=⟨(gt W' ((i:Int)+1)).to,(gt W' ((i:Int)+1)).cost,AP (gt W' ((i:Int)+1)).aF ((gt W' b).aF)⟩:=by
        unfold jI
        rw[if_neg (by show¬((gt W' b).cost+_>_);omega),if_neg (by show¬(_>(gt W' b).cost+_);omega)]
       rw[if_pos q6,OK,AX lu pD,XK (w:=⟨(gt W' ((i:Int)+1)).to,(gt W' ((i:Int)+1)).cost,AP (gt W' ((i:Int)+1)).aF (gt W' b).aF⟩) lu pD q4 q4 rfl]
       have hu:=Ia (gt W' ((i:Int)+1)).aF ((gt W' b).aF) (by omega) (by omega)
       have q5':¬((gt W' ((i:Int)+1)).cost<(gt W' ((i:Int)+1)).cost):=by omega
       simp(disch:=omega) only[↓pq,↓pj,ps,pz,↓reduceIte,af,ah,ai,aj,ak,ap,aq,au,av,ql,qm,qn,pA,qo,aO,hM,q1,fI,q2,qE,j3,v_,EY,sk,eq_false q3,Jw _ H9,DR,Ju,wu,H3,cI,q4,EZ,q5,q5',q6,hu]
      ·rw[if_neg q6]
       simp(disch:=omega) only[↓pq,↓pj,ps,pz,↓reduceIte,af,ah,ai,aj,ak,ap,aq,au,av,ql,qm,qn,pA,qo,aO,hM,q1,fI,q2,qE,j3,v_,EY,sk,eq_false q3,Jw _ H9,DR,Ju,wu,H3,cI,q4,EZ,q5,q6]
   ·intro W' w _
    simp(disch:=omega) only[↓pq,↓pj,ps,pz,↓reduceIte,af,ah,ai,aj,ak,ap,aq,au,av,ql,qm,qn,pA,qo,]
 refine rZ 6 (λi c=>[ii (i+1),.l (c.map aD)]) (λc i=>c.set (i+1) (-1)) (λc=>if c=[0,-1,-1,-1,-1,-1,-1]then some [T.l ((yn (sj s ar fr 6 (W0 fr) [])).map br)]else none) (List.replicate 7 0) (λi c=>c=(List.range i).foldl (λc i=>c.set (i+1) (-1)) (List.replicate 7 0)) rfl (dh (by omega)) rfl ?_ ?_ |>.trans (by rfl)
 ·intro i c hi hc
  have hl:c.length=7:=by rw[hc,Oz (λM x=>by simp)];simp
  have aO:(i:Int)+1<=6:=by omega
  have wu:((i:Int)+1).toNat=i+1:=by omega
  refine⟨by rw[List.range_succ,List.foldl_append,<-hc];rfl,λq=>?_⟩
  simp(disch:=omega) only[↓pq,↓pj,ps,pz,↓reduceIte,af,ah,ai,aj,ak,ap,aq,au,av,ql,qm,qn,pA,qo,aO,DR,wu]
 ·intro c q hc
  have hc:c=[0,-1,-1,-1,-1,-1,-1]:=hc
  rw[hc,if_pos rfl]
  have bE:fr<(([0,-1,-1,-1,-1,-1,-1]:List Int).length:Int):=by simp;omega
  have nu:Prim.ev (.put true 1 0 1) [.l (([0,-1,-1,-1,-1,-1,-1]:List Int).map aD),ii fr,ii 0]=some (.l ((uM (W0 fr)).map aD)):=by
   rw[DR (by omega) bE]
   congr 3
   unfold uM
   rw[show([0,-1,-1,-1,-1,-1,-1]:List Int)=vp (λi=>if i=0 then 0 else -1) from rfl,DX]
   refine AV λi hi=>?_
   rw[wq XH (by omega) (by omega)]
   by_cases e:i=fr.toNat
   ·have e1:fr=(i:Int):=by omega
    have e2:¬(i=0):=by omega
    rw[if_pos e,if_neg e2,if_pos e1]
    show(0:Int)=if fr=0 then -1 else 0
    rw[if_neg (by omega)]
   ·have e1:¬(fr=(i:Int)):=by omega
    rw[if_neg e,if_neg e1]
    by_cases e0:i=0
    ·rw[if_pos e0,if_pos e0]
    ·rw[if_neg e0,if_neg e0];rfl
  have hh:(List.replicate 7 ([]:List Int))=xe (W0 fr):=by
   show vp (λ_=>[])=_
   unfold xe
   refine AV λi hi=>?_
   rw[wq XH (by omega) (by omega)]
   split<;>rfl
  have qH:List.replicate 7 false=zw []:=rfl
  simp(disch:=omega) only[↓pq,↓pj,ps,pz,↓reduceIte,af,ah,ai,aj,ak,ap,aq,au,av,ql,qm,qn,pA,qo,nu,hh,qH]
  refine aos (s:=s) hs (ar:=ar) (fr:=fr) (λr W D=>[ii r,.l ((xe W).map zv),.l ((zw D).map iF),.l ((uM W).map aD)]) (out:=λW=>some [T.l ((yn W).map br)]) ?_ ?_ ?_ 6 (W0 fr) [] rounds (gU.start XH) rfl (by unfold rounds;omega)
  ·intro W D q hI hD hb
   rw[sel W D q hI hD,if_pos hb]
  ·intro W D q hI hD hb
   rw[sel W D q hI hD,if_neg hb]
  ·intro W D q hI hb
   have l1:=OI D
   have l2:=OG W
   have l3:=OH W
   simp(disch:=omega) only[↓pq,↓pj,ps,pz,↓reduceIte,af,ah,ai,aj,ak,ap,aq,au,av,ql,qm,qn,pA,qo,]
   refine(rZ 6 (λi c=>[.l (c.map br),ii (i+1)]) (λc i=>if D.contains ((i:Int)+1)=true then c++[⟨(i:Int)+1,(gt W ((i:Int)+1)).cost,(gt W ((i:Int)+1)).aF⟩]else c) (λc=>some [T.l (c.map br)]) [] (λi c=>c.length<=i) rfl (dh (by omega)) (by simp) ?_ ?_).trans (by rw[GC (λi:Nat=>D.contains ((i:Int)+1)) (λi:Nat=>(⟨(i:Int)+1,(gt W ((i:Int)+1)).cost,(gt W ((i:Int)+1)).aF⟩:Way)),List.nil_append,<-aot hI hb])
   ·intro i c hi hc
    refine⟨by split<;>(try simp)<;>omega,λw=>?_⟩
    have aO:(i:Int)+1<=6:=by omega
    have fI:=OE D (v:=(i:Int)+1) (by omega) aO
    have qE:=DZ W (v:=(i:Int)+1) (by omega) aO
    have v_:=OD W (v:=(i:Int)+1) (by omega) aO
    have hhl:=sf (hI.ok.aF ((i:Int)+1) (by omega) (by omega))
    cases EX:D.contains ((i:Int)+1)with
    |false=>simp(disch:=omega) only[↓pq,↓pj,ps,pz,↓reduceIte,af,ah,ai,aj,ak,ap,aq,au,av,ql,qm,qn,pA,qo,aO,fI,EX,cI]
    |true=>
     have ht:=(hI.mem _ (List.contains_iff_mem.1 EX)).2
     simp(disch:=omega) only[↓pq,↓pj,ps,pz,↓reduceIte,af,ah,ai,aj,ak,ap,aq,au,av,ql,qm,qn,pA,qo,aO,fI,EX,qE,v_,ht,H3]
   ·intro c w hc
    simp(disch:=omega) only[↓pq,↓pj,ps,pz,↓reduceIte,af,ah,ai,aj,ak,ap,aq,au,av,ql,qm,qn,pA,qo,]
theorem OL{α:Type}(key:α->Int):∀{a b:List α},a.Pairwise (λx y=>key x<key y)->b.Pairwise (λx y=>key x<key y)->(∀x,x∈a↔x∈b)->a=b
 | [],[],_,_,_=>rfl
 | [],y::b,_,_,h=>absurd ((h y).2 (.head _)) (by simp)
 |x::a,[],_,_,h=>absurd ((h x).1 (.head _)) (by simp)
 |x::a,y::b,ha,hb,h=>by
  have xc:=List.pairwise_cons.1 ha
  have kl:=List.pairwise_cons.1 hb
  have Kx:x=y:=by
   rcases List.mem_cons.1 ((h x).1 (.head _))with e|e
   ·exact e
   ·rcases List.mem_cons.1 ((h y).2 (.head _))with e'|e'
    ·exact e'.symm
    ·have:=kl.1 x e;have:=xc.1 y e';omega
  subst Kx
  have:a=b:=OL key xc.2 kl.2 λz=>by
   constructor
   ·intro hz
    rcases List.mem_cons.1 ((h z).1 (.tail _ hz))with e|e
    ·subst e;have:=xc.1 z hz;omega
    ·exact e
   ·intro hz
    rcases List.mem_cons.1 ((h z).2 (.tail _ hz))with e|e
    ·subst e;have:=kl.1 z hz;omega
    ·exact e
  rw[this]
def mT(o:Option Way)(w:Way):Option Way:=match o with|none=>some w|some b=>some (jI b w)
def kf(l:List Way):Option Way:=l.foldl mT none
theorem Ib(l:List Way)(w:Way):kf (l++[w])=mT (kf l) w:=by simp[kf]
def Ic(l:List Way)(b:Way):Prop:=fo b.aF∧(∃x∈l,x.cost=b.cost)∧(∀x∈l,b.cost<=x.cost)∧∀h,h∈b.aF↔∃x∈l,x.cost=b.cost∧h∈x.aF
theorem aow{l:List Way}{b w:Way}(hl:∀x∈l,fo x.aF)(hw:fo w.aF)(h:Ic l b):Ic (l++[w]) (jI b w):=by
 obtain⟨h1,⟨x0,EC,S5⟩,h3,h4⟩:=h
 unfold jI
 by_cases q1:w.cost>b.cost
 ·rw[if_pos q1]
  refine⟨h1,⟨x0,by simp[EC],S5⟩,λx hx=>?_,λh=>?_⟩
  ·rcases List.mem_append.1 hx with hx|hx
   ·exact h3 x hx
   ·rw[List.mem_singleton]at hx;subst hx;omega
  ·rw[h4]
   constructor
   ·rintro⟨x,hx,e1,e2⟩;exact⟨x,by simp[hx],e1,e2⟩
   ·rintro⟨x,hx,e1,e2⟩
    rcases List.mem_append.1 hx with hx|hx
    ·exact⟨x,hx,e1,e2⟩
    ·rw[List.mem_singleton]at hx;subst hx;omega
 rw[if_neg q1]
 by_cases q2:b.cost>w.cost
 ·rw[if_pos q2]
  refine⟨hw,⟨w,by simp,rfl⟩,λx hx=>?_,λh=>?_⟩
  ·rcases List.mem_append.1 hx with hx|hx
   ·have:=h3 x hx;omega
   ·rw[List.mem_singleton]at hx;subst hx;omega
  ·constructor
   ·intro hh;exact⟨w,by simp,rfl,hh⟩
   ·rintro⟨x,hx,e1,e2⟩
    rcases List.mem_append.1 hx with hx|hx
    ·have:=h3 x hx;omega
    ·rw[List.mem_singleton]at hx;subst hx;exact e2
 rw[if_neg q2]
 have he:w.cost=b.cost:=by omega
 refine⟨HS _ _,⟨x0,by simp[EC],S5⟩,λx hx=>?_,λh=>?_⟩
 ·rcases List.mem_append.1 hx with hx|hx
  ·exact h3 x hx
  ·rw[List.mem_singleton]at hx;subst hx;show b.cost<=_;omega
 ·show h∈AP b.aF w.aF↔_
  rw[HT]
  constructor
  ·rintro⟨_,hh|hh⟩
   ·obtain⟨x,hx,e1,e2⟩:=(h4 h).1 hh
    exact⟨x,by simp[hx],e1,e2⟩
   ·exact⟨w,by simp,he,hh⟩
  ·rintro⟨x,hx,e1,e2⟩
   rcases List.mem_append.1 hx with hx|hx
   ·exact⟨(hl x hx).2 h e2,.inl ((h4 h).2 ⟨x,hx,e1,e2⟩)⟩
   ·rw[List.mem_singleton]at hx;subst hx
    exact⟨hw.2 h e2,.inr e2⟩
theorem E0{v:Int}:∀(n:Nat) (l:List Way),l.length=n->(∀x∈l,x.to=v∧fo x.aF)->(l=[]∧kf l=none)∨∃b,kf l=some b∧b.to=v∧Ic l b:=by
 intro n
 induction n with
 |zero=>intro l hl _;exact .inl ⟨List.eq_nil_of_length_eq_zero hl,by rw[List.eq_nil_of_length_eq_zero hl];rfl⟩
 |succ n ih=>
  intro l hl hx
  right
  obtain⟨l',w,rfl⟩:∃l' w,l=l'++[w]:=⟨l.dropLast,l.getLast (by intro e;subst e;simp at hl),(List.dropLast_concat_getLast _).symm⟩
  have hw:=hx w (by simp)
  rw[Ib]
  rcases ih l' (by simpa using hl) (λx h=>hx x (by simp[h]))with⟨rfl,e⟩|⟨b,e,hb,hB⟩
  ·rw[e]
   exact⟨w,rfl,hw.1,hw.2,⟨w,by simp,rfl⟩,by simp,λh=>by simp⟩
  ·rw[e]
   exact⟨jI b w,rfl,yo hb hw.1,aow (λx h=>(hx x (by simp[h])).2) hw.2 hB⟩
theorem XL{v:Int}{l l':List Way}(h:∀x∈l,x.to=v∧fo x.aF)(h':∀x,x∈l↔x∈l'):kf l=kf l':=by
 have lu:∀x∈l',x.to=v∧fo x.aF:=λx hx=>h x ((h' x).2 hx)
 rcases E0 _ l rfl h with⟨e,e1⟩|⟨b,e1,hb,B⟩
 ·rcases E0 _ l' rfl lu with⟨e',e2⟩|⟨b',_,_,B'⟩
  ·rw[e1,e2]
  ·obtain⟨x,hx,_⟩:=B'.2.1
   have:=(h' x).2 hx
   rw[e]at this;cases this
 ·rcases E0 _ l' rfl lu with⟨e',e2⟩|⟨b',e2,kl,B'⟩
  ·obtain⟨x,hx,_⟩:=B.2.1
   have:=(h' x).1 hx
   rw[e']at this;cases this
  ·have hc:b.cost=b'.cost:=by
    obtain⟨x,hx,ex⟩:=B.2.1
    obtain⟨y,hy,ey⟩:=B'.2.1
    have h1:=B'.2.2.1 x ((h' x).1 hx)
    have h2:=B.2.2.1 y ((h' y).2 hy)
    omega
   have hh:b.aF=b'.aF:=HR B.1.1 B'.1.1 λh=>by
    rw[B.2.2.2,B'.2.2.2,hc]
    exact⟨λ⟨x,hx,q⟩=>⟨x,(h' x).1 hx,q⟩,λ⟨x,hx,q⟩=>⟨x,(h' x).2 hx,q⟩⟩
   rw[e1,e2]
   congr 1
   cases b;cases b'
   simp only at hc hh hb kl
   subst hc hh hb kl
   rfl
def cF(C:List Way):List Way:=xd.filterMap λv=>kf (C.filter λw=>w.to==v)
theorem D1{C:List Way}(hC:∀x∈C,fo x.aF){x:Way}:x∈cF C↔(1<=x.to∧x.to<=6)∧kf (C.filter λw=>w.to==x.to)=some x:=by
 unfold cF
 rw[List.mem_filterMap]
 constructor
 ·rintro⟨v,hv,e⟩
  have hv:=iy.1 hv
  rcases E0 (v:=v) _ (C.filter λw=>w.to==v) rfl (λy hy=>by have:=List.mem_filter.1 hy;exact⟨by simpa using this.2,hC y this.1⟩)with⟨_,e1⟩|⟨b,e1,hb,_⟩
  ·rw[e1]at e;cases e
  ·rw[e1]at e;cases e
   subst hb
   exact⟨hv,e1⟩
 ·rintro⟨h1,h2⟩
  exact⟨x.to,iy.2 h1,h2⟩
theorem D2(C:List Way)(hC:∀x∈C,fo x.aF):(cF C).Pairwise λa b=>a.to<b.to:=by
 unfold cF
 rw[List.pairwise_filterMap]
 refine pc.imp λ{a b} nE x hx y hy=>?_
 have key:∀(v:Int) (z:Way),kf (C.filter λw=>w.to==v)=some z->z.to=v:=by
  intro v z hz
  rcases E0 (v:=v) _ (C.filter λw=>w.to==v) rfl (λy hy=>by have:=List.mem_filter.1 hy;exact⟨by simpa using this.2,hC y this.1⟩)with⟨_,e1⟩|⟨b,e1,hb,_⟩
  ·rw[e1]at hz;cases hz
  ·rw[e1]at hz;cases hz;exact hb
 rw[key a x hx,key b y hy]
 exact nE
theorem D3(C:List Way):(cF C).length<=6:=by
 unfold cF
 exact List.length_filterMap_le _ _
theorem AY{C:List Way}(hC:∀x∈C,fo x.aF){x:Way}(hx:x∈cF C):fo x.aF∧∃y∈C,y.to=x.to∧y.cost=x.cost:=by
 have hm:=(D1 hC).1 hx
 rcases E0 (v:=x.to) _ (C.filter λw=>w.to==x.to) rfl (λy hy=>by have:=List.mem_filter.1 hy;exact⟨by simpa using this.2,hC y this.1⟩)with⟨_,e1⟩|⟨b,e1,hb,B⟩
 ·rw[e1]at hm;cases hm.2
 ·rw[e1]at hm;cases hm.2
  obtain⟨y,hy,e⟩:=B.2.1
  have:=List.mem_filter.1 hy
  exact⟨B.1,y,this.1,by simpa using this.2,e⟩
def cf(l:List Way)(n:Int):Nat:=(l.filter (λx=>decide (x.to<n))).length
theorem Ie(l:List Way)(n:Int):cf l n<=l.length:=List.length_filter_le _ _
theorem Ig{l:List Way}(h:l.Pairwise λa b=>a.to<b.to)(n:Int):∀i,(hi:i<l.length)->(l[i].to<n↔i<cf l n):=by
 induction l with
 |nil=>simp
 |cons x c ih=>
  have hs:=List.pairwise_cons.1 h
  have i3:=ih hs.2
  by_cases hx:x.to<n
  ·have e:cf (x::c) n=cf c n+1:=by simp[cf,List.filter_cons,hx]
   rw[e]
   intro i hi
   cases i with
   |zero=>simp[hx]
   |succ i=>rw[List.getElem_cons_succ,i3 i (by simpa using hi)];omega
  ·have e1:(x::c).filter (λx=>decide (x.to<n))=[]:=by
    rw[List.filter_eq_nil_iff]
    intro y hy
    rcases List.mem_cons.1 hy with rfl|hy
    ·simp;omega
    ·have:=hs.1 y hy;simp;omega
   have e:cf (x::c) n=0:=by unfold cf;rw[e1];rfl
   rw[e]
   intro i hi
   refine⟨λh3=>?_,λh3=>absurd h3 (by omega)⟩
   cases i with
   |zero=>rw[List.getElem_cons_zero]at h3;omega
   |succ i=>
    rw[List.getElem_cons_succ]at h3
    have:=hs.1 _ (List.getElem_mem (by simpa using hi:i<c.length));omega
def uN(l:List Way)(w:Way):List Way:=
 if cf l w.to<l.length∧(gt l (cf l w.to:Nat)).to=w.to then l.set (cf l w.to) (jI (gt l (cf l w.to:Nat)) w)
 else l.take (cf l w.to)++([w]++l.drop (cf l w.to))
theorem XM{C:List Way}(hC:∀x∈C,fo x.aF){w:Way}(hw:1<=w.to∧w.to<=6)(hh:fo w.aF):uN (cF C) w=cF (C++[w]):=by
 have hC':∀x∈C++[w],fo x.aF:=λx hx=>by
  rcases List.mem_append.1 hx with hx|hx
  ·exact hC x hx
  ·rw[List.mem_singleton]at hx;subst hx;exact hh
 have sW:=D2 C hC
 have l8:=Ig sW w.to
 have hle:=Ie (cF C) w.to
 have RC:=List.pairwise_iff_getElem.1 sW
 have hf:∀v:Int,(C++[w]).filter (λx=>x.to==v)=C.filter (λx=>x.to==v)++if w.to=v then [w]else []:=by
  intro v
  rw[List.filter_append,List.filter_cons]
  by_cases e:w.to=v<;>simp[e]
 refine OL Way.to ?_ (D2 _ hC') λx=>?_
 ·unfold uN
  split
  ·rename_i hc
   rw[List.pairwise_iff_getElem]
   intro i j hi hj qu
   simp only[List.length_set]at hi hj
   have nK:(jI (gt (cF C) (cf (cF C) w.to:Nat)) w).to=(cF C)[cf (cF C) w.to].to:=by
    rw[yo (n:=w.to) hc.2 rfl,<-ed hc.1,hc.2]
   simp only[List.getElem_set]
   have vH:∀k (hk:k<(cF C).length),(if cf (cF C) w.to=k then jI (gt (cF C) (cf (cF C) w.to:Nat)) w else(cF C)[k]).to=(cF C)[k].to:=by
    intro k hk
    split
    ·rename_i e;subst e;exact nK
    ·rfl
   rw[vH i hi,vH j hj]
   exact RC i j hi hj qu
  ·rename_i hc
   rw[List.pairwise_append]
   refine⟨sW.sublist (List.take_sublist _ _),?_,?_⟩
   ·rw[List.singleton_append,List.pairwise_cons]
    refine⟨λy hy=>?_,sW.sublist (List.drop_sublist _ _)⟩
    obtain⟨i,hi,rfl⟩:=List.mem_iff_getElem.1 hy
    rw[List.getElem_drop]
    simp only[List.length_drop]at hi
    have h1:=mt (l8 (cf (cF C) w.to) (by omega)).1 (by omega)
    have h2:¬((cF C)[cf (cF C) w.to].to=w.to):=λe=>hc ⟨by omega,by rw[ed (by omega)];exact e⟩
    rcases Nat.eq_zero_or_pos i with rfl|h3
    ·show w.to<(cF C)[cf (cF C) w.to].to;omega
    ·have:=RC (cf (cF C) w.to) (cf (cF C) w.to+i) (by omega) (by omega) (by omega);omega
   ·intro a ha b hb
    obtain⟨i,hi,rfl⟩:=List.mem_iff_getElem.1 ha
    rw[List.getElem_take]
    simp only[List.length_take]at hi
    have h1:=(l8 i (by omega)).2 (by omega)
    rcases List.mem_append.1 hb with hb|hb
    ·rw[List.mem_singleton]at hb;subst hb;exact h1
    ·obtain⟨j,hj,rfl⟩:=List.mem_iff_getElem.1 hb
     rw[List.getElem_drop]
     simp only[List.length_drop]at hj
     exact RC i _ (by omega) (by omega) (by omega)
 ·rw[D1 hC',hf]
  unfold uN
  by_cases hc:cf (cF C) w.to<(cF C).length∧(gt (cF C) (cf (cF C) w.to:Nat)).to=w.to
  ·rw[if_pos hc]
   have hold:gt (cF C) (cf (cF C) w.to:Nat)∈cF C:=gZ (by omega) (by omega)
   have ho:=(D1 hC).1 hold
   rw[hc.2]at ho
   have jd:kf (C.filter (λx=>x.to==w.to)++[w])=some (jI (gt (cF C) (cf (cF C) w.to:Nat)) w):=by rw[Ib,ho.2];rfl
   have rl:(jI (gt (cF C) (cf (cF C) w.to:Nat)) w).to=w.to:=yo hc.2 rfl
   constructor
   ·intro hx
    obtain⟨i,hi,rfl⟩:=List.mem_iff_getElem.1 hx
    rw[List.length_set]at hi
    rw[List.getElem_set]
    by_cases e:cf (cF C) w.to=i
    ·rw[if_pos e,rl,if_pos rfl]
     exact⟨hw,jd⟩
    ·rw[if_neg e]
     have dI:¬(w.to=(cF C)[i].to):=by
      rw[<-hc.2,ed hc.1]
      rcases Nat.lt_or_gt_of_ne e with h|h
      ·have:=RC _ _ hc.1 hi h;omega
      ·have:=RC _ _ hi hc.1 h;omega
     rw[if_neg dI,List.append_nil]
     exact(D1 hC).1 (List.getElem_mem hi)
   ·rintro⟨h1,h2⟩
    by_cases e:w.to=x.to
    ·rw[if_pos e,<-e,jd]at h2
     cases h2
     exact List.mem_set hc.1 _
    ·rw[if_neg e,List.append_nil]at h2
     have hx:=(D1 hC).2 ⟨h1,h2⟩
     obtain⟨i,hi,rfl⟩:=List.mem_iff_getElem.1 hx
     rw[List.mem_iff_getElem]
     refine⟨i,by simpa using hi,?_⟩
     rw[List.getElem_set,if_neg]
     rintro rfl
     rw[ed hi]at hc
     exact e hc.2.symm
  ·rw[if_neg hc]
   have Kl:∀y∈cF C,y.to≠w.to:=by
    intro y hy e
    obtain⟨i,hi,rfl⟩:=List.mem_iff_getElem.1 hy
    have h1:=mt (l8 i hi).2 (by omega)
    have h2:cf (cF C) w.to<(cF C).length:=by omega
    have h3:=mt (l8 _ h2).1 (by omega)
    have h4:¬((cF C)[cf (cF C) w.to].to=w.to):=λe'=>hc ⟨h2,by rw[ed h2];exact e'⟩
    rcases Nat.eq_or_lt_of_le (show cf (cF C) w.to<=i by
     rcases Nat.lt_or_ge i (cf (cF C) w.to)with h5|h5
     ·have:=(l8 i hi).2 h5;omega
     ·exact h5)with h5|h5
    ·simp only[h5]at h4;exact h4 e
    ·have:=RC _ _ h2 hi h5;omega
   have dB:kf (C.filter λx=>x.to==w.to)=none:=by
    rcases E0 (v:=w.to) _ (C.filter λx=>x.to==w.to) rfl (λy hy=>by have:=List.mem_filter.1 hy;exact⟨by simpa using this.2,hC y this.1⟩)with⟨_,e1⟩|⟨b,e1,hb,_⟩
    ·exact e1
    ·exact absurd hb (Kl b ((D1 hC).2 ⟨by rw[hb];exact hw,by rw[hb];exact e1⟩))
   have je:x∈(cF C).take (cf (cF C) w.to)++([w]++(cF C).drop (cf (cF C) w.to))↔x=w∨x∈cF C:=by
    conv=>rhs;rw[<-List.take_append_drop (cf (cF C) w.to) (cF C)]
    simp only[List.mem_append,List.mem_singleton]
    constructor
    ·rintro(h|h|h)
     ·exact .inr (.inl h)
     ·exact .inl h
     ·exact .inr (.inr h)
    ·rintro(h|h|h)
     ·exact .inr (.inl h)
     ·exact .inl h
     ·exact .inr (.inr h)
   rw[je]
   constructor
   ·rintro(rfl|hx)
    ·rw[if_pos rfl,Ib,dB]
     exact⟨hw,rfl⟩
    ·rw[if_neg (λe=>Kl x hx e.symm),List.append_nil]
     exact(D1 hC).1 hx
   ·rintro⟨h1,h2⟩
    by_cases e:w.to=x.to
    ·rw[if_pos e,<-e,Ib,dB]at h2
     cases h2
     exact .inl rfl
    ·rw[if_neg e,List.append_nil]at h2
     exact .inr ((D1 hC).2 ⟨h1,h2⟩)
theorem OM{s:List ay}(hs:eA s=true)(ar fr:Int):∀k W D,gU fr W D->∃D',gU fr (sj s ar fr k W D) D'
 |0,W,D,h=>⟨D,h⟩
 |k+1,W,D,h=>by
  unfold sj
  by_cases hb:dT W D=0
  ·rw[if_pos hb];exact⟨D,h⟩
  ·rw[if_neg hb];exact OM hs ar fr k _ _ (h.step hs ar hb)
theorem gv{s:List ay}{ar fr:Int}:(aH s ar fr).Pairwise (λa b=>a.to<b.to)∧(aH s ar fr).length<=7∧∀w∈aH s ar fr,(1<=w.to∧w.to<=6)∧fo w.aF∧0<=w.cost∧w.cost<=6000:=by
 unfold aH
 by_cases hc:eA s=true∧jO fr 1 6=true∧0<=iz s ar fr
 ·rw[if_pos hc]
  obtain⟨D,hI⟩:=OM hc.1 ar fr 6 (W0 fr) [] (gU.start (aZ.1 hc.2.1))
  have hD:=hI.len
  have hl:=hI.ok.len
  have key:∀i,(hi:i<(sj s ar fr 6 (W0 fr) []).length)->(sj s ar fr 6 (W0 fr) [])[i].to≠0->(sj s ar fr 6 (W0 fr) [])[i].to=(i:Int)∧1<=i:=by
   intro i hi h0
   have:=(hI.ok.to (i:Int) (by omega) (by omega))
   rw[ed hi]at this
   have:=this.resolve_left h0
   exact⟨this,by omega⟩
  refine⟨?_,Nat.le_trans (aol _) (by omega),λw hw=>?_⟩
  ·have hp:(sj s ar fr 6 (W0 fr) []).Pairwise λa b=>a.to≠0->b.to≠0->a.to<b.to:=by
    rw[List.pairwise_iff_getElem]
    intro i j hi hj qu h1 h2
    rw[(key i hi h1).1,(key j hj h2).1];omega
   unfold yn
   have EY:=hp.filter (λw=>!(w.to==0))
   refine EY.imp_of_mem λ{a b} ha hb nE=>nE ?_ ?_
   ·have:=(List.mem_filter.1 ha).2;simpa using this
   ·have:=(List.mem_filter.1 hb).2;simpa using this
  ·obtain⟨h1,h2⟩:=List.mem_filter.1 hw
   have h2:w.to≠0:=by simpa using h2
   obtain⟨i,hi,rfl⟩:=List.mem_iff_getElem.1 h1
   obtain⟨h3,h4⟩:=key i hi h2
   have h5:=hI.ok.aF (i:Int) (by omega) (by omega)
   have h6:=hI.ok.cost (i:Int) (by omega) (by omega)
   rw[ed hi]at h5 h6
   exact⟨by omega,h5,by omega⟩
 ·rw[if_neg hc];simp
theorem aox(l:List Way)(w:Way)(i:Nat)(q:aB)(sW:l.Pairwise λa b=>a.to<b.to)(hlen:l.length<=6)(hl:∀x∈l,fo x.aF)(hw:fo w.aF)(hi:i<=1048576)(x:T):
  iter (DJ sa u_ (.l (l.map br)) (ii i) x (ii w.to) (ii w.cost) (.l (w.aF.map aD)) q) rounds [ii 0]=q [.l ((uN l w).map br),ii (i+1),x]:=by
 have hle:=Ie l w.to
 have l8:=Ig sW w.to
 have hwl:=sf hw
 refine AO (λk=>[ii k]) (cf l w.to) rfl (dh (by omega)) ?_ ?_
 ·intro k hk q'
  have eU:(k:Int)<l.length:=by omega
  have cO:(gt l (k:Int)).to<w.to:=by rw[ed (by omega)];exact(l8 k (by omega)).2 (by omega)
  simp(disch:=omega) only[↓pq,↓pj,ps,pz,↓reduceIte,af,ah,ai,aj,ak,ap,aq,au,av,DJ,EQ,ER,eU,cO]
 ·intro q'
  have ht:((cf l w.to:Nat):Int).toNat=cf l w.to:=Int.toNat_natCast _
  have qY:=Ry w.to w.cost w.aF (by omega)
  have iC:=Ou (enc:=br) (λ_=>rfl) hle
  have qO:=Ov (enc:=br) (λ_=>rfl) hle
  unfold uN
  by_cases bE:cf l w.to<l.length
  ·have eU:((cf l w.to:Nat):Int)<l.length:=by omega
   have cO:¬((gt l ((cf l w.to:Nat):Int)).to<w.to):=by rw[ed bE];intro hc;have:=(l8 _ bE).1 hc;omega
   have B7:=hl _ (gZ (l:=l) (n:=((cf l w.to:Nat):Int)) (by omega) eU)
   by_cases he:(gt l ((cf l w.to:Nat):Int)).to=w.to
   ·rw[if_pos ⟨bE,he⟩]
    have hT:=H0 (gt l ((cf l w.to:Nat):Int)).to (gt l ((cf l w.to:Nat):Int)).cost (gt l ((cf l w.to:Nat):Int)).aF w.to w.cost w.aF B7 hw
    rw[he]at hT
    have IM:∀(x:Way) (n:Int),x.to=n->(⟨n,x.cost,x.aF⟩:Way)=x:=by intro x n h;subst h;rfl
    rw[IM _ _ he]at hT
    simp(disch:=omega) only[↓pq,↓pj,ps,pz,↓reduceIte,af,ah,ai,aj,ak,ap,aq,au,av,DJ,EQ,ER,eU,cO,he,hT,br,H2,ht]
   ·rw[if_neg (λh=>he h.2)]
    simp(disch:=omega) only[↓pq,↓pj,ps,pz,↓reduceIte,af,ah,ai,aj,ak,ap,aq,au,av,DJ,EQ,ER,eU,cO,he,qY,ht,iC,qO]
    simp only[Jb (show(l.take (cf l w.to)).length<4294967296 by simp;omega),LL (show(l.take (cf l w.to)).length<4294967295 by simp;omega),fU,qO]
    rw[Ja (by simp;omega),fU,List.append_assoc]
  ·have eU:¬(((cf l w.to:Nat):Int)<l.length):=by omega
   rw[if_neg (λh=>bE h.1)]
   simp(disch:=omega) only[↓pq,↓pj,ps,pz,↓reduceIte,af,ah,ai,aj,ak,ap,aq,au,av,DJ,EQ,ER,eU,qY,ht,iC,qO]
   simp only[Jb (show(l.take (cf l w.to)).length<4294967296 by simp;omega),LL (show(l.take (cf l w.to)).length<4294967295 by simp;omega),fU,qO]
   rw[Ja (by simp;omega),fU,List.append_assoc]
theorem aoz(l:List Way)(w:Way)(i:Nat)(q:aB)(sW:l.Pairwise λa b=>a.to<b.to)(hlen:l.length<=6)(hl:∀x∈l,fo x.aF)(hw:fo w.aF)(hi:i<=1048576):
  iter (qp sa u_ (.l (l.map br)) (ii i) (ii w.to) (.l (w.aF.map aD)) (ii w.cost) q) rounds [ii 0]=q [.l ((uN l w).map br),ii (i+1)]:=by
 have hle:=Ie l w.to
 have l8:=Ig sW w.to
 have hwl:=sf hw
 refine AO (λk=>[ii k]) (cf l w.to) rfl (dh (by omega)) ?_ ?_
 ·intro k hk q'
  have eU:(k:Int)<l.length:=by omega
  have cO:(gt l (k:Int)).to<w.to:=by rw[ed (by omega)];exact(l8 k (by omega)).2 (by omega)
  simp(disch:=omega) only[↓pq,↓pj,ps,pz,↓reduceIte,af,ah,ai,aj,ak,ap,aq,au,av,qp,qs,qN,eU,cO]
 ·intro q'
  have ht:((cf l w.to:Nat):Int).toNat=cf l w.to:=Int.toNat_natCast _
  have qY:=Ry w.to w.cost w.aF (by omega)
  have iC:=Ou (enc:=br) (λ_=>rfl) hle
  have qO:=Ov (enc:=br) (λ_=>rfl) hle
  unfold uN
  by_cases bE:cf l w.to<l.length
  ·have eU:((cf l w.to:Nat):Int)<l.length:=by omega
   have cO:¬((gt l ((cf l w.to:Nat):Int)).to<w.to):=by rw[ed bE];intro hc;have:=(l8 _ bE).1 hc;omega
   have B7:=hl _ (gZ (l:=l) (n:=((cf l w.to:Nat):Int)) (by omega) eU)
   by_cases he:(gt l ((cf l w.to:Nat):Int)).to=w.to
   ·rw[if_pos ⟨bE,he⟩]
    have hT:=H0 (gt l ((cf l w.to:Nat):Int)).to (gt l ((cf l w.to:Nat):Int)).cost (gt l ((cf l w.to:Nat):Int)).aF w.to w.cost w.aF B7 hw
    rw[he]at hT
    have IM:∀(x:Way) (n:Int),x.to=n->(⟨n,x.cost,x.aF⟩:Way)=x:=by intro x n h;subst h;rfl
    rw[IM _ _ he]at hT
    simp(disch:=omega) only[↓pq,↓pj,ps,pz,↓reduceIte,af,ah,ai,aj,ak,ap,aq,au,av,qp,qs,qN,eU,cO,he,hT,br,H2,ht]
   ·rw[if_neg (λh=>he h.2)]
    simp(disch:=omega) only[↓pq,↓pj,ps,pz,↓reduceIte,af,ah,ai,aj,ak,ap,aq,au,av,qp,qs,qN,eU,cO,he,qY,ht,iC,qO]
    simp only[Jb (show(l.take (cf l w.to)).length<4294967296 by simp;omega),LL (show(l.take (cf l w.to)).length<4294967295 by simp;omega),fU,qO]
    rw[Ja (by simp;omega),fU,List.append_assoc]
  ·have eU:¬(((cf l w.to:Nat):Int)<l.length):=by omega
   rw[if_neg (λh=>bE h.1)]
   simp(disch:=omega) only[↓pq,↓pj,ps,pz,↓reduceIte,af,ah,ai,aj,ak,ap,aq,au,av,qp,qs,qN,eU,qY,ht,iC,qO]
   simp only[Jb (show(l.take (cf l w.to)).length<4294967296 by simp;omega),LL (show(l.take (cf l w.to)).length<4294967295 by simp;omega),fU,qO]
   rw[Ja (by simp;omega),fU,List.append_assoc]
theorem aoA(l:List Way)(w:Way)(i:Nat)(q:aB)(sW:l.Pairwise λa b=>a.to<b.to)(hlen:l.length<=6)(hl:∀x∈l,fo x.aF)(hw:fo w.aF)(hi:i<=1048576):
  iter (qs sa u_ (.l (l.map br)) (ii i) (ii w.to) (.l (w.aF.map aD)) (ii w.cost) q) rounds [ii 0]=q [.l ((uN l w).map br),ii (i+1)]:=by
 have hle:=Ie l w.to
 have l8:=Ig sW w.to
 have hwl:=sf hw
 refine AO (λk=>[ii k]) (cf l w.to) rfl (dh (by omega)) ?_ ?_
 ·intro k hk q'
  have eU:(k:Int)<l.length:=by omega
  have cO:(gt l (k:Int)).to<w.to:=by rw[ed (by omega)];exact(l8 k (by omega)).2 (by omega)
  simp(disch:=omega) only[↓pq,↓pj,ps,pz,↓reduceIte,af,ah,ai,aj,ak,ap,aq,au,av,qp,qs,qN,eU,cO]
 ·intro q'
  have ht:((cf l w.to:Nat):Int).toNat=cf l w.to:=Int.toNat_natCast _
  have qY:=Ry w.to w.cost w.aF (by omega)
  have iC:=Ou (enc:=br) (λ_=>rfl) hle
  have qO:=Ov (enc:=br) (λ_=>rfl) hle
  unfold uN
  by_cases bE:cf l w.to<l.length
  ·have eU:((cf l w.to:Nat):Int)<l.length:=by omega
   have cO:¬((gt l ((cf l w.to:Nat):Int)).to<w.to):=by rw[ed bE];intro hc;have:=(l8 _ bE).1 hc;omega
   have B7:=hl _ (gZ (l:=l) (n:=((cf l w.to:Nat):Int)) (by omega) eU)
   by_cases he:(gt l ((cf l w.to:Nat):Int)).to=w.to
   ·rw[if_pos ⟨bE,he⟩]
    have hT:=H0 (gt l ((cf l w.to:Nat):Int)).to (gt l ((cf l w.to:Nat):Int)).cost (gt l ((cf l w.to:Nat):Int)).aF w.to w.cost w.aF B7 hw
    rw[he]at hT
    have IM:∀(x:Way) (n:Int),x.to=n->(⟨n,x.cost,x.aF⟩:Way)=x:=by intro x n h;subst h;rfl
    rw[IM _ _ he]at hT
    simp(disch:=omega) only[↓pq,↓pj,ps,pz,↓reduceIte,af,ah,ai,aj,ak,ap,aq,au,av,qp,qs,qN,eU,cO,he,hT,br,H2,ht]
   ·rw[if_neg (λh=>he h.2)]
    simp(disch:=omega) only[↓pq,↓pj,ps,pz,↓reduceIte,af,ah,ai,aj,ak,ap,aq,au,av,qp,qs,qN,eU,cO,he,qY,ht,iC,qO]
    simp only[Jb (show(l.take (cf l w.to)).length<4294967296 by simp;omega),LL (show(l.take (cf l w.to)).length<4294967295 by simp;omega),fU,qO]
    rw[Ja (by simp;omega),fU,List.append_assoc]
  ·have eU:¬(((cf l w.to:Nat):Int)<l.length):=by omega
   rw[if_neg (λh=>bE h.1)]
   simp(disch:=omega) only[↓pq,↓pj,ps,pz,↓reduceIte,af,ah,ai,aj,ak,ap,aq,au,av,qp,qs,qN,eU,qY,ht,iC,qO]
   simp only[Jb (show(l.take (cf l w.to)).length<4294967296 by simp;omega),LL (show(l.take (cf l w.to)).length<4294967295 by simp;omega),fU,qO]
   rw[Ja (by simp;omega),fU,List.append_assoc]
def mU(s:List ay)(de:List Int)(fr:Int):List Way:=de.flatMap λa=>aH s a fr
theorem E1{s:List ay}{de:List Int}{fr:Int}:∀w∈mU s de fr,(1<=w.to∧w.to<=6)∧fo w.aF∧0<=w.cost∧w.cost<=6000:=by
 intro w hw
 unfold mU at hw
 obtain⟨a,_,h⟩:=List.mem_flatMap.1 hw
 exact gv.2.2 w h
theorem ON{α β:Type}(f:α->List β)(l:List α)(c:List β):l.foldl (λc a=>c++f a) c=c++l.flatMap f:=by
 induction l generalizing c with
 |nil=>simp
 |cons a l ih=>rw[List.foldl_cons,ih];simp
theorem OO{α:Type}(l c:List α):l.foldl (λc a=>c++[a]) c=c++l:=by
 induction l generalizing c with
 |nil=>simp
 |cons a l ih=>rw[List.foldl_cons,ih];simp
theorem D4{α β:Type}(f:α->Option β)(l:List α):l.flatMap (λa=>(f a).toList)=l.filterMap f:=by
 induction l with
 |nil=>rfl
 |cons a l ih=>rw[List.flatMap_cons,List.filterMap_cons,ih];cases f a<;>rfl
def within(s:List ay)(de:List Int)(fr:Int):List Way:=cF (mU s de fr)
theorem kX_(s:List ay)(de:List Int)(fr:Int)(h:s.length<=1048576)(hn:bh s)(ha:de.length<=1048576):BP [.l (s.map aC),.l (de.map aD),ii fr]=some [.l ((within s de fr).map br)]:=by
 rw[am7];simp(disch:=omega) only[↓pq,↓pj,ps,pz,↓reduceIte,af,ah,ai,aj,ak,ap,aq,au,av,DJ,EQ,ER,kS_]
 refine(g_ de (λj C=>[.l ((cF C).map br),ii j]) (λC a=>C++aH s a fr) (λC=>some [T.l ((cF C).map br)]) [] (λ_ C=>∀x∈C,fo x.aF) rfl (dh ha) (by simp) ?_ ?_).trans (by rw[ON,List.nil_append];rfl)
 ·intro j C hj hC
  obtain⟨w1,w2,w3⟩:=gv (s:=s) (ar:=gt de j) (fr:=fr)
  refine⟨λx hx=>(List.mem_append.1 hx).elim (hC x) λhx=>(w3 x hx).2.1,λq=>?_⟩
  simp(disch:=omega) only[↓pq,↓pj,ps,pz,↓reduceIte,af,ah,ai,aj,ak,ap,aq,au,av,DJ,EQ,ER,hj,OC _ _ _ h hn]
  refine(g_ (aH s (gt de j) fr) (λi C=>[.l ((cF C).map br),ii i,.l ((aH s (gt de j) fr).map br)]) (λC w=>C++[w]) (λC=>q [T.l ((cF C).map br),ii (j+1)]) C (λ_ C=>∀x∈C,fo x.aF) rfl (dh (by omega)) hC ?_ ?_).trans (by rw[OO])
  ·intro i C hi hC
   have hw:=w3 _ (gZ (n:=i) (by omega) hi)
   refine⟨λx hx=>(List.mem_append.1 hx).elim (hC x) λhx=>by rw[List.mem_singleton]at hx;subst hx;exact hw.2.1,λq'=>?_⟩
   simp(disch:=omega) only[↓pq,↓pj,ps,pz,↓reduceIte,af,ah,ai,aj,ak,ap,aq,au,av,DJ,EQ,ER,hi]
   rw[aox (cF C) (gt (aH s (gt de j) fr) i) i q' (D2 C hC) (D3 C) (λx hx=>(AY hC hx).1) hw.2.1 (by omega) _,XM hC hw.1 hw.2.1]
  ·intro C q' hC
   simp(disch:=omega) only[↓pq,↓pj,ps,pz,↓reduceIte,af,ah,ai,aj,ak,ap,aq,au,av,DJ,EQ,ER,]
 ·intro C q hC
  simp(disch:=omega) only[↓pq,↓pj,ps,pz,↓reduceIte,af,ah,ai,aj,ak,ap,aq,au,av,DJ,EQ,ER,]
def yp(l:List Way):List T:=[.l (l.map br)]
theorem AZ{l:List (List Way)}{n:Int}(h:0<=n)(h':n<l.length):Prim.ev (.cell 1 0) [.l (l.map yp),ii n]=some (.l ((gt l n).map br)):=gS h (db h h') rfl rfl
theorem XN(x:List Way):Prim.ev (.lit 1 []) [.l (x.map br)]=some (.l ([x].map yp)):=q0 (by decide) rfl rfl
theorem XO{l:List (List Way)}{x:List Way}(h:l.length<4294967295):Prim.ev (.app false 1) [.l (l.map yp),.l ([x].map yp)]=some (.l ((l++[x]).map yp)):=tC (w:=1) (λ_=>rfl) (.inl rfl) (by unfold wJ;simp;omega)
def cY(l:List Way)(v:Int):Option Way:=if dY l v<0 then none else some (gt l (dY l v))
theorem XP(l:List Way)(v:Int):dY l v<l.length:=rz _ _
theorem xf{l:List Way}{v:Int}{w:Way}(h:cY l v=some w):w∈l∧w.to=v:=by
 unfold cY at h
 split at h
 ·cases h
 ·rename_i hf
  cases h
  have:=tE (λw:Way=>w.to==v) l (by unfold dY at hf;omega)
  exact⟨gZ (by omega) (XP _ _),by simpa[dY]using this⟩
theorem aoC{l:List Way}{v:Int}(h:cY l v=none):∀w∈l,w.to≠v:=by
 unfold cY at h
 split at h
 ·rename_i hf
  intro w hw
  have:=(EN _ _).1 hf w hw
  simpa using this
 ·cases h
theorem aoD{l:List Way}(h:l.Pairwise λa b=>a.to<b.to){x y:Way}(hx:x∈l)(hy:y∈l)(e:x.to=y.to):x=y:=by
 obtain⟨i,hi,rfl⟩:=List.mem_iff_getElem.1 hx
 obtain⟨j,hj,rfl⟩:=List.mem_iff_getElem.1 hy
 rw[List.pairwise_iff_getElem]at h
 rcases Nat.lt_trichotomy i j with h1|h1|h1
 ·have:=h i j hi hj h1;omega
 ·subst h1;rfl
 ·have:=h j i hj hi h1;omega
theorem aoE{l:List Way}(h:l.Pairwise λa b=>a.to<b.to){v:Int}{w:Way}:cY l v=some w↔w∈l∧w.to=v:=by
 refine⟨xf,λ⟨h1,h2⟩=>?_⟩
 cases e:cY l v with
 |none=>exact absurd h2 (aoC e w h1)
 |some w'=>
  have:=xf e
  rw[aoD h this.1 h1 (by omega)]
def OP(o:Option Way)(i:Int):List T:=match o with|none=>[bb false,ii i,ii 0,ii 0,.l []]|some b=>[bb true,ii i,ii b.to,ii b.cost,.l (b.aF.map aD)]
theorem XQ(s:List ay)(de:List Int)(fr:Int)(h:s.length<=1048576)(hn:bh s)(ha:de.length<=1048576):GP [.l (s.map aC),.l (de.map aD),ii fr]=some [.l ((within s de fr).map br)]:=by
 have hW:=λa=>gv (s:=s) (ar:=a) (fr:=fr)
 rw[akS];simp(disch:=omega) only[↓pq,↓pj,ps,pz,↓reduceIte,af,ah,ai,aj,ak,ap,aq,au,av,BQ,BR,BS,kU_]
 refine g_ de (λj C=>[.l (C.map yp),ii j]) (λC a=>C++[aH s a fr]) (λ_=>some [T.l ((within s de fr).map br)]) [] (λj C=>C=(de.take j).map (λa=>aH s a fr)) rfl (dh ha) rfl ?_ ?_
 ·intro j C hj hC
  have hl:C.length<=j:=by rw[hC];simp;omega
  refine⟨by rw[List.take_add_one,hC,List.map_append,List.getElem?_eq_getElem (by omega),ed (by omega)];rfl,λq=>?_⟩
  simp(disch:=omega) only[↓pq,↓pj,ps,pz,↓reduceIte,af,ah,ai,aj,ak,ap,aq,au,av,BQ,BR,BS,hj,OJ _ _ _ h hn,XN,XO]
 ·intro C q hC
  have hC:C=de.map (λa=>aH s a fr):=by rw[hC,List.take_length]
  have hCl:C.length=de.length:=by rw[hC,List.length_map]
  have OQ:∀j:Nat,(j:Int)<de.length->gt C (j:Int)=aH s (gt de j) fr:=by
   intro j hj
   rw[ed (by omega),ed (by omega)]
   simp only[hC,List.getElem_map]
  simp(disch:=omega) only[↓pq,↓pj,ps,pz,↓reduceIte,af,ah,ai,aj,ak,ap,aq,au,av,BQ,BR,BS,]
  refine(rZ 6 (λi c=>[.l (c.map br),ii (i+1)]) (λc i=>c++(kf (de.filterMap λa=>cY (aH s a fr) ((i:Int)+1))).toList) (λc=>some [T.l (c.map br)]) [] (λi c=>c.length<=i) rfl (dh (by omega)) (by simp) ?_ ?_).trans ?_
  ·intro i c hi hc
   refine⟨by cases kf (de.filterMap λa=>cY (aH s a fr) ((i:Int)+1))<;>simp<;>omega,λq'=>?_⟩
   have aO:(i:Int)+1<=6:=by omega
   simp(disch:=omega) only[↓pq,↓pj,ps,pz,↓reduceIte,af,ah,ai,aj,ak,ap,aq,au,av,BQ,BR,BS,aO]
   have hfm:∀(l:List Int) (o:Option Way),l.foldl (λo a=>match cY (aH s a fr) ((i:Int)+1)with|none=>o|some w=>mT o w) o=(l.filterMap λa=>cY (aH s a fr) ((i:Int)+1)).foldl mT o:=by
    intro l
    induction l with
    |nil=>intro o;rfl
    |cons a l ih=>
     intro o
     rw[List.foldl_cons,List.filterMap_cons]
     cases cY (aH s a fr) ((i:Int)+1)with
     |none=>exact ih o
     |some w=>exact ih _
   refine(g_ de (λj o=>OP o j) (λo a=>match cY (aH s a fr) ((i:Int)+1)with|none=>o|some w=>mT o w) (λo=>q' [T.l ((c++o.toList).map br),ii ((i:Int)+1+1)]) none (λ_ o=>∀b,o=some b->fo b.aF) rfl (dh ha) (by simp) ?_ ?_).trans (by rw[hfm];rfl)
   ·intro j o hj ho
    obtain⟨w1,w2,w3⟩:=hW (gt de j)
    have hlC:(j:Int)<C.length:=by omega
    have hT:=HV (aH s (gt de j) fr) ((i:Int)+1) (by omega) (λw hw=>by have:=sf (w3 w hw).2.1;omega)
    constructor
    ·intro b hb
     cases hw:cY (aH s (gt de j) fr) ((i:Int)+1)with
     |none=>rw[hw]at hb;exact ho b hb
     |some w=>
      rw[hw]at hb
      have hh:=(w3 w (xf hw).1).2.1
      cases o with
      |none=>simp only[mT]at hb;cases hb;exact hh
      |some b0=>simp only[mT]at hb;cases hb;exact H6 (ho b0 rfl) hh
    ·intro q2
     unfold cY
     by_cases hp:dY (aH s (gt de j) fr) ((i:Int)+1)<0
     ·rw[if_pos hp]at hT
      cases o with
      |none=>simp only[OP];simp(disch:=omega) only[↓pq,↓pj,ps,pz,↓reduceIte,af,ah,ai,aj,ak,ap,aq,au,av,BQ,BR,BS,hj,AZ,OQ j hj,hT,hp,cI]
      |some b=>simp only[OP];simp(disch:=omega) only[↓pq,↓pj,ps,pz,↓reduceIte,af,ah,ai,aj,ak,ap,aq,au,av,BQ,BR,BS,hj,AZ,OQ j hj,hT,hp,cI]
     ·rw[if_neg hp]at hT
      have hm:=w3 _ (gZ (l:=aH s (gt de j) fr) (n:=dY (aH s (gt de j) fr) ((i:Int)+1)) (by omega) (XP _ _))
      have qI:=sf hm.2.1
      simp only[br,List.cons_append,List.nil_append]at hT
      cases o with
      |none=>simp only[OP];simp(disch:=omega) only[↓pq,↓pj,ps,pz,↓reduceIte,af,ah,ai,aj,ak,ap,aq,au,av,BQ,BR,BS,hj,AZ,OQ j hj,hT,hp,cI];rfl
      |some b=>
       have tc:=sf (ho b rfl)
       simp only[OP]
       simp(disch:=omega) only[↓pq,↓pj,ps,pz,↓reduceIte,af,ah,ai,aj,ak,ap,aq,au,av,BQ,BR,BS,hj,AZ,OQ j hj,hT,hp,cI,XJ _ _ _ _ _ _ (show b.aF.length<=1048576 by omega) (show(gt (aH s (gt de j) fr) (dY (aH s (gt de j) fr) ((i:Int)+1))).aF.length<=1048576 by omega),br]
       rfl
   ·intro o q2 ho
    cases o with
    |none=>simp only[OP];simp(disch:=omega) only[↓pq,↓pj,ps,pz,↓reduceIte,af,ah,ai,aj,ak,ap,aq,au,av,BQ,BR,BS,cI];simp
    |some b=>simp only[OP];simp(disch:=omega) only[↓pq,↓pj,ps,pz,↓reduceIte,af,ah,ai,aj,ak,ap,aq,au,av,BQ,BR,BS,];simp
  ·intro c q' hc
   simp(disch:=omega) only[↓pq,↓pj,ps,pz,↓reduceIte,af,ah,ai,aj,ak,ap,aq,au,av,BQ,BR,BS,]
  ·rw[ON (λi:Nat=>(kf (de.filterMap λa=>cY (aH s a fr) ((i:Int)+1))).toList),List.nil_append]
   congr 3
   unfold within cF
   rw[DY,List.filterMap_map,D4]
   refine congrArg (λf=>List.map br (List.filterMap f (List.range 6))) (funext λi=>?_)
   show _=kf _
   refine XL (v:=(i:Int)+1) (λx hx=>?_) λx=>?_
   ·obtain⟨a,_,hx⟩:=List.mem_filterMap.1 hx
    have:=xf hx
    exact⟨this.2,((hW a).2.2 x this.1).2.1⟩
   ·rw[List.mem_filterMap,List.mem_filter]
    unfold mU
    rw[List.mem_flatMap]
    constructor
    ·rintro⟨a,xc,hx⟩
     have:=xf hx
     exact⟨⟨a,xc,this.1⟩,by simpa using this.2⟩
    ·rintro⟨⟨a,xc,hx⟩,e⟩
     exact⟨a,xc,(aoE (hW a).1).2 ⟨hx,by simpa using e⟩⟩
theorem XR{s:List ay}(hs:eA s=true){x:ay}(hx:x∈s)(h:x.kind=2):(1<=x.key∧x.key<=6)∧0<=x.cost∧x.cost<=60000:=by
 have:=B6 hs hx
 unfold fu at this
 rw[if_neg (by omega),if_pos h]at this
 simp only[bI,aZ]at this
 exact⟨this.2.1.1.1.2,this.2.1.2⟩
theorem XS{s:List ay}(hs:eA s=true){x:ay}(hx:x∈s):0<=x.cost∧x.cost<=60000:=by
 have:=B6 hs hx
 unfold fu at this
 grind[aZ]
theorem Ih{s:List ay}{a fr v:Int}{w:Way}(h:cY (aH s a fr) v=some w):w.to=v∧fo w.aF∧0<=w.cost∧w.cost<=6000∧eA s=true:=by
 have h1:=xf h
 have h2:=gv.2.2 w h1.1
 refine⟨h1.2,h2.2.1,h2.2.2.1,h2.2.2.2,?_⟩
 cases e:eA s with
 |true=>rfl
 |false=>
  have:aH s a fr=[]:=by unfold aH;rw[if_neg (by rw[e];simp)]
  rw[this]at h1;cases h1.1
def gV(s:List ay)(A:List Int)(z:Bool)(fr:Int)(x:ay):Option Way:=
 if x.kind=2∧x.cost<60000∧x.owner≠fr∧A.contains x.ae=true∧(z=true->x.ae=0)∧dY (within s A fr) x.key<0 then
  match cY (aH s x.ae fr) x.owner with
  |none=>none
  |some w=>if x.cost+w.cost<60000 then some ⟨x.key,x.cost+w.cost,w.aF⟩else none
 else none
theorem OR{s:List ay}{A:List Int}{z:Bool}{fr:Int}{x:ay}{w:Way}(h:gV s A z fr x=some w):(x.kind=2∧x.cost<60000∧x.owner≠fr∧A.contains x.ae=true∧(z=true->x.ae=0)∧dY (within s A fr) x.key<0)∧∃y,cY (aH s x.ae fr) x.owner=some y∧x.cost+y.cost<60000∧w=⟨x.key,x.cost+y.cost,y.aF⟩:=by
 unfold gV at h
 split at h
 ·rename_i hc
  refine⟨hc,?_⟩
  split at h
  ·cases h
  ·rename_i y hy
   split at h
   ·rename_i hl;cases h;exact⟨y,hy,hl,rfl⟩
   ·cases h
 ·cases h
theorem XU{s:List ay}{A:List Int}{z:Bool}{fr:Int}{x:ay}(hx:x∈s){w:Way}(h:gV s A z fr x=some w):(1<=w.to∧w.to<=6)∧fo w.aF∧0<=w.cost∧w.cost<60000:=by
 obtain⟨h1,y,h2,h3,rfl⟩:=OR h
 have h4:=Ih h2
 have h5:=XR h4.2.2.2.2 hx h1.1
 exact⟨h5.1,h4.2.1,by show 0<=x.cost+y.cost;omega,h3⟩
def B8(s:List ay)(A:List Int)(z:Bool)(fr:Int):List Way:=s.filterMap (gV s A z fr)
theorem XV{s:List ay}{A:List Int}{z:Bool}{fr:Int}:∀w∈B8 s A z fr,(1<=w.to∧w.to<=6)∧fo w.aF∧0<=w.cost∧w.cost<60000:=by
 intro w hw
 obtain⟨x,hx,h⟩:=List.mem_filterMap.1 hw
 exact XU hx h
def beyond(s:List ay)(A:List Int)(z:Bool)(fr:Int):List Way:=cF (B8 s A z fr)
theorem OS{s:List ay}{A:List Int}{fr:Int}:∀w∈within s A fr,w.aF.length<=1048576:=by
 intro w hw
 have:=sf (AY (λx hx=>(E1 x hx).2.1) hw).1
 omega
theorem OT{s:List ay}{A:List Int}{fr:Int}:(within s A fr).length<=6:=D3 _
theorem OU{s:List ay}{a fr:Int}:∀w∈aH s a fr,w.aF.length<=1048576:=by
 intro w hw
 have:=sf (gv.2.2 w hw).2.1
 omega
theorem OV{s:List ay}{a fr:Int}:(aH s a fr).length<=7:=gv.2.1
theorem XW(s:List ay)(A:List Int)(z:Bool)(fr:Int)(h:s.length<=1048576)(hn:bh s)(ha:A.length<=1048576):G5 [.l (s.map aC),.l (A.map aD),bb z,ii fr]=some [.l ((beyond s A z fr).map br)]:=by
 rw[am_];simp(disch:=omega) only[↓pq,↓pj,ps,pz,↓reduceIte,af,ah,ai,aj,ak,ap,aq,au,av,qp,qs,qN,kN_,kX_ _ _ _ h hn ha]
 refine(g_ s (λj C=>[.l ((cF C).map br),ii j]) (λC x=>C++(gV s A z fr x).toList) (λC=>some [T.l ((cF C).map br)]) [] (λ_ C=>∀x∈C,fo x.aF) rfl (dh h) (by simp) ?_ ?_).trans (by rw[ON,List.nil_append,D4];rfl)
 ·intro j C hj hC
  have hm:=gZ (l:=s) (n:=(j:Int)) (by omega) hj
  have j9:gV s A z fr (gt s j)=none->cF (C++(gV s A z fr (gt s j)).toList)=cF C:=by intro e;rw[e];simp
  refine⟨λx hx=>(List.mem_append.1 hx).elim (hC x) λhx=>?_,λq=>?_⟩
  ·rw[Option.mem_toList]at hx
   exact(XU hm hx).2.1
  by_cases k1:(gt s j).kind=2
  rotate_left
  ·rw[j9 (by unfold gV;rw[if_neg (λh=>k1 h.1)])]
   simp(disch:=omega) only[↓pq,↓pj,ps,pz,↓reduceIte,af,ah,ai,aj,ak,ap,aq,au,av,qp,qs,qN,cI,hj,k1]
  by_cases k2:(gt s j).cost<60000
  rotate_left
  ·rw[j9 (by unfold gV;rw[if_neg (λh=>k2 h.2.1)])]
   simp(disch:=omega) only[↓pq,↓pj,ps,pz,↓reduceIte,af,ah,ai,aj,ak,ap,aq,au,av,qp,qs,qN,cI,hj,k1,show(gt s j).cost>=60000 by omega]
  by_cases k3:(gt s j).owner=fr
  ·rw[j9 (by unfold gV;rw[if_neg (λh=>h.2.2.1 k3)])]
   simp(disch:=omega) only[↓pq,↓pj,ps,pz,↓reduceIte,af,ah,ai,aj,ak,ap,aq,au,av,qp,qs,qN,cI,hj,k1,show¬(gt s j).cost>=60000 by omega,k3]
  by_cases k4:A.contains (gt s j).ae=true
  rotate_left
  ·have k4':A.contains (gt s j).ae=false:=by simpa using k4
   rw[j9 (by unfold gV;rw[if_neg (λh=>k4 h.2.2.2.1)])]
   simp(disch:=omega) only[↓pq,↓pj,ps,pz,↓reduceIte,af,ah,ai,aj,ak,ap,aq,au,av,qp,qs,qN,cI,hj,k1,show¬(gt s j).cost>=60000 by omega,k3,zu _ _ ha,k4']
  by_cases k5:z=true->(gt s j).ae=0
  rotate_left
  ·have k5':z=true∧(gt s j).ae≠0:=by simpa using k5
   rw[j9 (by unfold gV;rw[if_neg (λh=>k5 h.2.2.2.2.1)])]
   obtain⟨rfl,k6⟩:=k5'
   simp(disch:=omega) only[↓pq,↓pj,ps,pz,↓reduceIte,af,ah,ai,aj,ak,ap,aq,au,av,qp,qs,qN,cI,hj,k1,show¬(gt s j).cost>=60000 by omega,k3,zu _ _ ha,k4,k6]
  have hW:=HU (within s A fr) (gt s j).key (by have:=OT (s:=s) (A:=A) (fr:=fr);omega) OS
  have hV:=HU (aH s (gt s j).ae fr) (gt s j).owner (by have:=OV (s:=s) (a:=(gt s j).ae) (fr:=fr);omega) OU
  have hI:=OC s (gt s j).ae fr h hn
  by_cases k6:dY (within s A fr) (gt s j).key<0
  rotate_left
  ·rw[j9 (by unfold gV;rw[if_neg (λh=>k6 h.2.2.2.2.2)])]
   rw[if_neg k6]at hW
   simp only[br,List.cons_append,List.nil_append]at hW
   by_cases k7:dY (aH s (gt s j).ae fr) (gt s j).owner<0
   ·rw[if_pos k7]at hV
    cases z with
    |true=>rw[k5 rfl]at hV hI k4;simp(disch:=omega) only[↓pq,↓pj,ps,pz,↓reduceIte,af,ah,ai,aj,ak,ap,aq,au,av,qp,qs,qN,cI,hj,k1,show¬(gt s j).cost>=60000 by omega,k3,zu _ _ ha,k4,k5 rfl,hW,hV,hI]
    |false=>simp(disch:=omega) only[↓pq,↓pj,ps,pz,↓reduceIte,af,ah,ai,aj,ak,ap,aq,au,av,qp,qs,qN,cI,hj,k1,show¬(gt s j).cost>=60000 by omega,k3,zu _ _ ha,k4,hW,hV,hI]
   ·rw[if_neg k7]at hV
    simp only[br,List.cons_append,List.nil_append]at hV
    cases z with
    |true=>rw[k5 rfl]at hV hI k4;simp(disch:=omega) only[↓pq,↓pj,ps,pz,↓reduceIte,af,ah,ai,aj,ak,ap,aq,au,av,qp,qs,qN,cI,hj,k1,show¬(gt s j).cost>=60000 by omega,k3,zu _ _ ha,k4,k5 rfl,hW,hV,hI]
    |false=>simp(disch:=omega) only[↓pq,↓pj,ps,pz,↓reduceIte,af,ah,ai,aj,ak,ap,aq,au,av,qp,qs,qN,cI,hj,k1,show¬(gt s j).cost>=60000 by omega,k3,zu _ _ ha,k4,hW,hV,hI]
  rw[if_pos k6]at hW
  by_cases k7:dY (aH s (gt s j).ae fr) (gt s j).owner<0
  ·rw[j9 (by unfold gV cY;rw[if_pos ⟨k1,k2,k3,k4,k5,k6⟩,if_pos k7])]
   rw[if_pos k7]at hV
   cases z with
   |true=>rw[k5 rfl]at hV hI k4;simp(disch:=omega) only[↓pq,↓pj,ps,pz,↓reduceIte,af,ah,ai,aj,ak,ap,aq,au,av,qp,qs,qN,cI,hj,k1,show¬(gt s j).cost>=60000 by omega,k3,zu _ _ ha,k4,k5 rfl,hW,hV,hI]
   |false=>simp(disch:=omega) only[↓pq,↓pj,ps,pz,↓reduceIte,af,ah,ai,aj,ak,ap,aq,au,av,qp,qs,qN,cI,hj,k1,show¬(gt s j).cost>=60000 by omega,k3,zu _ _ ha,k4,hW,hV,hI]
  have hO:cY (aH s (gt s j).ae fr) (gt s j).owner=some (gt (aH s (gt s j).ae fr) (dY (aH s (gt s j).ae fr) (gt s j).owner)):=by unfold cY;rw[if_neg k7]
  rw[if_neg k7]at hV
  generalize gt (aH s (gt s j).ae fr) (dY (aH s (gt s j).ae fr) (gt s j).owner)=w at hO hV
  have hw:=Ih hO
  have hr:=XR hw.2.2.2.2 hm k1
  simp only[br,List.cons_append,List.nil_append]at hV
  by_cases k8:(gt s j).cost+w.cost<60000
  rotate_left
  ·rw[j9 (by unfold gV;rw[if_pos ⟨k1,k2,k3,k4,k5,k6⟩,hO];simp only[];rw[if_neg k8])]
   cases z with
   |true=>rw[k5 rfl]at hV hI k4;simp(disch:=omega) only[↓pq,↓pj,ps,pz,↓reduceIte,af,ah,ai,aj,ak,ap,aq,au,av,qp,qs,qN,cI,hj,k1,show¬(gt s j).cost>=60000 by omega,k3,zu _ _ ha,k4,k5 rfl,hW,hV,hI,show(gt s j).cost+w.cost>=60000 by omega]
   |false=>simp(disch:=omega) only[↓pq,↓pj,ps,pz,↓reduceIte,af,ah,ai,aj,ak,ap,aq,au,av,qp,qs,qN,cI,hj,k1,show¬(gt s j).cost>=60000 by omega,k3,zu _ _ ha,k4,hW,hV,hI,show(gt s j).cost+w.cost>=60000 by omega]
  have hB:gV s A z fr (gt s j)=some ⟨(gt s j).key,(gt s j).cost+w.cost,w.aF⟩:=by unfold gV;rw[if_pos ⟨k1,k2,k3,k4,k5,k6⟩,hO];simp only[];rw[if_pos k8]
  rw[hB,Option.toList_some,<-XM (w:=⟨(gt s j).key,(gt s j).cost+w.cost,w.aF⟩) hC hr.1 hw.2.1]
  cases z with
  |true=>
   rw[k5 rfl]at hV hI k4;simp(disch:=omega) only[↓pq,↓pj,ps,pz,↓reduceIte,af,ah,ai,aj,ak,ap,aq,au,av,qp,qs,qN,cI,hj,k1,show¬(gt s j).cost>=60000 by omega,k3,zu _ _ ha,k4,k5 rfl,hW,hV,hI,show¬(gt s j).cost+w.cost>=60000 by omega]
   exact aoA (cF C) ⟨(gt s j).key,(gt s j).cost+w.cost,w.aF⟩ j q (D2 C hC) (D3 C) (λx hx=>(AY hC hx).1) hw.2.1 (by omega)
  |false=>
   simp(disch:=omega) only[↓pq,↓pj,ps,pz,↓reduceIte,af,ah,ai,aj,ak,ap,aq,au,av,qp,qs,qN,cI,hj,k1,show¬(gt s j).cost>=60000 by omega,k3,zu _ _ ha,k4,hW,hV,hI,show¬(gt s j).cost+w.cost>=60000 by omega]
   exact aoz (cF C) ⟨(gt s j).key,(gt s j).cost+w.cost,w.aF⟩ j q (D2 C hC) (D3 C) (λx hx=>(AY hC hx).1) hw.2.1 (by omega)
 ·intro C q hC
  simp(disch:=omega) only[↓pq,↓pj,ps,pz,↓reduceIte,af,ah,ai,aj,ak,ap,aq,au,av,qp,qs,qN,]
def wz:Way:=⟨0,0,[]⟩
def oW(o:Option Way):Way:=o.getD wz
theorem D5(w:Way):oW (some w)=w:=rfl
def lQ(W:List Way)(ae fr to:Int)(x:ay):Option Way:=
 if x.kind=2∧x.ae=ae∧x.key=to∧x.owner≠fr∧x.cost<60000 then
  match cY W x.owner with
  |none=>none
  |some w=>if w.cost+x.cost<60000 then some ⟨to,w.cost+x.cost,w.aF⟩else none
 else none
theorem OW{W:List Way}{ae fr to:Int}{x:ay}(hW:∀w∈W,fo w.aF){w:Way}(h:lQ W ae fr to x=some w):w.to=to∧fo w.aF:=by
 unfold lQ at h
 split at h
 ·split at h
  ·cases h
  ·rename_i y hy
   split at h
   ·cases h;exact⟨rfl,hW y (xf hy).1⟩
   ·cases h
 ·cases h
def yq(o:Option Way)(l:List Way):Option Way:=l.foldl mT o
theorem OX{l:List Way}{o:Option Way}(ho:∀b,o=some b->fo b.aF)(hl:∀w∈l,fo w.aF):∀b,yq o l=some b->fo b.aF:=by
 induction l generalizing o with
 |nil=>exact ho
 |cons a l ih=>
  refine ih (o:=mT o a) (λb hb=>?_) λw hw=>hl w (.tail _ hw)
  cases o with
  |none=>simp only[mT]at hb;cases hb;exact hl _ (.head _)
  |some b0=>simp only[mT]at hb;cases hb;exact H6 (ho b0 rfl) (hl _ (.head _))
theorem aoF{α:Type}(f:α->Option Way)(l:List α)(o:Option Way):l.foldl (λo x=>match f x with|none=>o|some w=>mT o w) o=yq o (l.filterMap f):=by
 induction l generalizing o with
 |nil=>rfl
 |cons a l ih=>
  rw[List.foldl_cons,List.filterMap_cons]
  cases f a with
  |none=>exact ih o
  |some w=>exact ih _
theorem aoG(s:List ay)(W:List Way)(ae fr to:Int)(o:Option Way)(h:s.length<=1048576)(hn:bh s)(hs:eA s=true)(XI:W.length<=7)(hW:∀w∈W,fo w.aF∧0<=w.cost∧w.cost<=6000)(ho:∀b,o=some b->fo b.aF):
  QM [.l (s.map aC),.l (W.map br),ii ae,ii fr,ii to,ii (oW o).to,ii (oW o).cost,.l ((oW o).aF.map aD),bb o.isSome]=(λo':Option Way=>some [ii (oW o').to,ii (oW o').cost,.l ((oW o').aF.map aD),bb o'.isSome]) (yq o (s.filterMap (lQ W ae fr to))):=by
 rw[akU];simp(disch:=omega) only[↓pq,↓pj,ps,pz,↓reduceIte,af,ah,ai,aj,ak,ap,aq,au,av,BT,MU]
 refine(g_ s (λj o=>[bb o.isSome,ii j,ii (oW o).to,ii (oW o).cost,.l ((oW o).aF.map aD)]) (λo x=>match lQ W ae fr to x with|none=>o|some w=>mT o w) (λo':Option Way=>some [ii (oW o').to,ii (oW o').cost,.l ((oW o').aF.map aD),bb o'.isSome]) o (λ_ o=>∀b,o=some b->fo b.aF) rfl (dh h) ho ?_ ?_).trans (by rw[aoF])
 ·intro j o hj ho
  have hm:=gZ (l:=s) (n:=(j:Int)) (by omega) hj
  have hc:=XS hs hm
  constructor
  ·intro b hb
   cases e:lQ W ae fr to (gt s j)with
   |none=>rw[e]at hb;exact ho b hb
   |some w=>
    rw[e]at hb
    exact OX (l:=[w]) ho (by intro y hy;rw[List.mem_singleton]at hy;subst hy;exact(OW (λw hw=>(hW w hw).1) e).2) b hb
  intro q
  have hT:=HV W (gt s j).owner (by omega) (λw hw=>by have:=sf (hW w hw).1;omega)
  by_cases k1:(gt s j).kind=2∧(gt s j).ae=ae∧(gt s j).key=to∧(gt s j).owner≠fr∧(gt s j).cost<60000
  rotate_left
  ·have hr:lQ W ae fr to (gt s j)=none:=by unfold lQ;rw[if_neg k1]
   rw[hr]
   by_cases a1:(gt s j).kind=2
   ·by_cases a2:(gt s j).ae=ae
    ·by_cases a3:(gt s j).key=to
     ·by_cases a4:(gt s j).owner=fr
      ·simp(disch:=omega) only[↓pq,↓pj,ps,pz,↓reduceIte,af,ah,ai,aj,ak,ap,aq,au,av,BT,hj,a1,a2,a3,a4]
      ·have a5:(gt s j).cost>=60000:=by
        rcases Int.lt_or_le (gt s j).cost 60000 with h|h
        ·exact absurd ⟨a1,a2,a3,a4,h⟩ k1
        ·exact h
       simp(disch:=omega) only[↓pq,↓pj,ps,pz,↓reduceIte,af,ah,ai,aj,ak,ap,aq,au,av,BT,hj,a1,a2,a3,a4,a5]
     ·simp(disch:=omega) only[↓pq,↓pj,ps,pz,↓reduceIte,af,ah,ai,aj,ak,ap,aq,au,av,BT,hj,a1,a2,a3]
    ·simp(disch:=omega) only[↓pq,↓pj,ps,pz,↓reduceIte,af,ah,ai,aj,ak,ap,aq,au,av,BT,hj,a1,a2]
   ·simp(disch:=omega) only[↓pq,↓pj,ps,pz,↓reduceIte,af,ah,ai,aj,ak,ap,aq,au,av,BT,hj,a1]
  obtain⟨a1,a2,a3,a4,a5⟩:=k1
  have a5':¬(gt s j).cost>=60000:=by omega
  by_cases hp:dY W (gt s j).owner<0
  ·have hr:lQ W ae fr to (gt s j)=none:=by unfold lQ cY;rw[if_pos ⟨a1,a2,a3,a4,a5⟩,if_pos hp]
   rw[hr]
   rw[if_pos hp]at hT
   simp(disch:=omega) only[↓pq,↓pj,ps,pz,↓reduceIte,af,ah,ai,aj,ak,ap,aq,au,av,BT,hj,a1,a2,a3,a4,a5',hT,cI]
  rw[if_neg hp]at hT
  have hO:cY W (gt s j).owner=some (gt W (dY W (gt s j).owner)):=by unfold cY;rw[if_neg hp]
  generalize gt W (dY W (gt s j).owner)=w at hO hT
  have hw:=hW w (xf hO).1
  have qI:=sf hw.1
  simp only[br,List.cons_append,List.nil_append]at hT
  by_cases hq:w.cost+(gt s j).cost<60000
  ·have hr:lQ W ae fr to (gt s j)=some ⟨to,w.cost+(gt s j).cost,w.aF⟩:=by unfold lQ;rw[if_pos ⟨a1,a2,a3,a4,a5⟩,hO];simp only[];rw[if_pos hq]
   rw[hr]
   cases o with
   |none=>simp(disch:=omega) only[↓pq,↓pj,ps,pz,↓reduceIte,af,ah,ai,aj,ak,ap,aq,au,av,BT,hj,a1,a2,a3,a4,a5',hT,show¬w.cost+(gt s j).cost>=60000 by omega,Option.isSome_none,cI];rfl
   |some b=>
    have tc:=sf (ho b rfl)
    simp(disch:=omega) only[↓pq,↓pj,ps,pz,↓reduceIte,af,ah,ai,aj,ak,ap,aq,au,av,BT,hj,a1,a2,a3,a4,a5',hT,show¬w.cost+(gt s j).cost>=60000 by omega,Option.isSome_some,D5,XJ _ _ _ _ _ _ (show b.aF.length<=1048576 by omega) (show w.aF.length<=1048576 by omega),br];rfl
  ·have hr:lQ W ae fr to (gt s j)=none:=by unfold lQ;rw[if_pos ⟨a1,a2,a3,a4,a5⟩,hO];simp only[];rw[if_neg hq]
   rw[hr]
   simp(disch:=omega) only[↓pq,↓pj,ps,pz,↓reduceIte,af,ah,ai,aj,ak,ap,aq,au,av,BT,hj,a1,a2,a3,a4,a5',hT,show w.cost+(gt s j).cost>=60000 by omega]
 ·intro o q ho
  simp(disch:=omega) only[↓pq,↓pj,ps,pz,↓reduceIte,af,ah,ai,aj,ak,ap,aq,au,av,BT,]
def yr(s:List ay)(A:List Int)(z:Bool)(fr to:Int):List Way:=(A.filter λa=>!z||a==0).flatMap λa=>s.filterMap (lQ (aH s a fr) a fr to)
theorem aoH{α:Type}(p:α->Bool)(f:α->List Way)(l:List α)(o:Option Way):l.foldl (λo a=>if p a=true then yq o (f a)else o) o=yq o ((l.filter p).flatMap f):=by
 induction l generalizing o with
 |nil=>rfl
 |cons a l ih=>
  rw[List.foldl_cons,ih,List.filter_cons]
  cases p a with
  |false=>rfl
  |true=>simp[yq]
theorem aoI{s:List ay}{A:List Int}{z:Bool}{fr to:Int}:∀w∈yr s A z fr to,w.to=to∧fo w.aF:=by
 intro w hw
 unfold yr at hw
 obtain⟨a,_,h⟩:=List.mem_flatMap.1 hw
 obtain⟨x,hx,h⟩:=List.mem_filterMap.1 h
 exact OW (λy hy=>(gv.2.2 y hy).2.1) h
theorem aoJ{s:List ay}{A:List Int}{z:Bool}{fr to:Int}(ht:dY (within s A fr) to<0)(w:Way):w∈yr s A z fr to↔w∈(B8 s A z fr).filter λw=>w.to==to:=by
 unfold yr B8
 rw[List.mem_flatMap,List.mem_filter,List.mem_filterMap]
 constructor
 ·rintro⟨a,ha,h⟩
  obtain⟨x,hx,h⟩:=List.mem_filterMap.1 h
  have ha:=List.mem_filter.1 ha
  unfold lQ at h
  split at h
  ·rename_i hc
   obtain⟨c1,c2,c3,c4,c5⟩:=hc
   subst c2 c3
   split at h
   ·cases h
   ·rename_i y hy
    split at h
    ·rename_i hl
     cases h
     refine⟨⟨x,hx,?_⟩,by simp⟩
     unfold gV
     rw[if_pos ⟨c1,c5,c4,List.contains_iff_mem.2 ha.1,λhz=>by have:=ha.2;rw[hz]at this;simpa using this,ht⟩,hy]
     simp only[]
     rw[if_pos (by omega),Int.add_comm]
    ·cases h
  ·cases h
 ·rintro⟨⟨x,hx,h⟩,nK⟩
  obtain⟨⟨c1,c2,c3,c4,c5,c6⟩,y,hy,hl,rfl⟩:=OR h
  have nK:x.key=to:=by simpa using nK
  refine⟨x.ae,List.mem_filter.2 ⟨List.contains_iff_mem.1 c4,?_⟩,List.mem_filterMap.2 ⟨x,hx,?_⟩⟩
  ·cases z with
   |false=>rfl
   |true=>simp[c5 rfl]
  ·unfold lQ
   rw[if_pos ⟨c1,rfl,nK,c3,c2⟩,hy]
   simp only[]
   rw[if_pos (by omega),Int.add_comm,nK]
theorem aoK{s:List ay}{A:List Int}{z:Bool}{fr to:Int}(ht:¬dY (within s A fr) to<0):(B8 s A z fr).filter (λw=>w.to==to)=[]:=by
 rw[List.filter_eq_nil_iff]
 intro w hw
 obtain⟨x,hx,h⟩:=List.mem_filterMap.1 hw
 obtain⟨hc,y,_,_,rfl⟩:=OR h
 intro e
 have e:x.key=to:=by simpa using e
 subst e
 exact ht hc.2.2.2.2.2
theorem aoL(s:List ay)(A:List Int)(z:Bool)(fr:Int)(h:s.length<=1048576)(hn:bh s)(ha:A.length<=1048576):QN [.l (s.map aC),.l (A.map aD),bb z,ii fr]=some [.l ((beyond s A z fr).map br)]:=by
 have hW:=λa=>gv (s:=s) (ar:=a) (fr:=fr)
 rw[akX];simp(disch:=omega) only[↓pq,↓pj,ps,pz,↓reduceIte,af,ah,ai,aj,ak,ap,aq,au,av,zh,zi,zj,kR_,XQ _ _ _ h hn ha,HH _ h hn]
 cases hs:eA s with
 |false=>
  have:B8 s A z fr=[]:=by
   unfold B8
   rw[List.filterMap_eq_nil_iff]
   intro x hx
   cases e:gV s A z fr x with
   |none=>rfl
   |some w=>
    obtain⟨_,y,hy,_⟩:=OR e
    have:=(Ih hy).2.2.2.2
    rw[hs]at this;cases this
  simp(disch:=omega) only[↓pq,↓pj,ps,pz,↓reduceIte,af,ah,ai,aj,ak,ap,aq,au,av,zh,zi,zj,cI]
  unfold beyond
  rw[this]
  rfl
 |true=>
 simp(disch:=omega) only[↓pq,↓pj,ps,pz,↓reduceIte,af,ah,ai,aj,ak,ap,aq,au,av,zh,zi,zj,]
 refine g_ A (λj C=>[.l (C.map yp),ii j]) (λC a=>C++[aH s a fr]) (λ_=>some [T.l ((beyond s A z fr).map br)]) [] (λj C=>C=(A.take j).map (λa=>aH s a fr)) rfl (dh ha) rfl ?_ ?_
 ·intro j C hj hC
  have hl:C.length<=j:=by rw[hC];simp;omega
  refine⟨by rw[List.take_add_one,hC,List.map_append,List.getElem?_eq_getElem (by omega),ed (by omega)];rfl,λq=>?_⟩
  simp(disch:=omega) only[↓pq,↓pj,ps,pz,↓reduceIte,af,ah,ai,aj,ak,ap,aq,au,av,zh,zi,zj,hj,OJ _ _ _ h hn,XN,XO]
 ·intro C q hC
  have hC:C=A.map (λa=>aH s a fr):=by rw[hC,List.take_length]
  have hCl:C.length=A.length:=by rw[hC,List.length_map]
  have OQ:∀j:Nat,(j:Int)<A.length->gt C (j:Int)=aH s (gt A j) fr:=by
   intro j hj
   rw[ed (by omega),ed (by omega)]
   simp only[hC,List.getElem_map]
  simp(disch:=omega) only[↓pq,↓pj,ps,pz,↓reduceIte,af,ah,ai,aj,ak,ap,aq,au,av,zh,zi,zj,]
  refine(rZ 6 (λi c=>[.l (c.map br),ii (i+1)]) (λc i=>c++(if dY (within s A fr) ((i:Int)+1)<0 then kf (yr s A z fr ((i:Int)+1))else none).toList) (λc=>some [T.l (c.map br)]) [] (λi c=>c.length<=i) rfl (dh (by omega)) (by simp) ?_ ?_).trans ?_
  ·intro i c hi hc
   refine⟨by cases(if dY (within s A fr) ((i:Int)+1)<0 then kf (yr s A z fr ((i:Int)+1))else none)<;>simp<;>omega,λq'=>?_⟩
   have aO:(i:Int)+1<=6:=by omega
   have hT:=HV (within s A fr) ((i:Int)+1) (by have:=OT (s:=s) (A:=A) (fr:=fr);omega) OS
   by_cases hp:dY (within s A fr) ((i:Int)+1)<0
   rotate_left
   ·rw[if_neg hp]at hT⊢
    simp only[br,List.cons_append,List.nil_append]at hT
    simp(disch:=omega) only[↓pq,↓pj,ps,pz,↓reduceIte,af,ah,ai,aj,ak,ap,aq,au,av,zh,zi,zj,aO,hT,Option.toList_none,List.append_nil]
   rw[if_pos hp]at hT⊢
   simp(disch:=omega) only[↓pq,↓pj,ps,pz,↓reduceIte,af,ah,ai,aj,ak,ap,aq,au,av,zh,zi,zj,aO,hT,cI]
   refine(g_ A (λj o=>[bb o.isSome,ii j,ii (oW o).to,ii (oW o).cost,.l ((oW o).aF.map aD)]) (λo a=>if(!z||a==0)=true then yq o (s.filterMap (lQ (aH s a fr) a fr ((i:Int)+1)))else o) (λo=>q' [T.l ((c++o.toList).map br),ii ((i:Int)+1+1)]) none (λ_ o=>∀b,o=some b->fo b.aF) rfl (dh ha) (by simp) ?_ ?_).trans (by rw[aoH];rfl)
   ·intro j o hj ho
    obtain⟨w1,w2,w3⟩:=hW (gt A j)
    have hlC:(j:Int)<C.length:=by omega
    have hB:=aoG s (aH s (gt A j) fr) (gt A j) fr ((i:Int)+1) o h hn hs w2 (λw hw=>(w3 w hw).2) ho
    have ez:=OX (o:=o) (l:=s.filterMap (lQ (aH s (gt A j) fr) (gt A j) fr ((i:Int)+1))) ho (λw hw=>by
     obtain⟨x,_,e⟩:=List.mem_filterMap.1 hw
     exact(OW (λw hw=>(w3 w hw).2.1) e).2)
    cases z with
    |false=>
     refine⟨ez,λq2=>?_⟩
     simp(disch:=omega) only[↓pq,↓pj,ps,pz,↓reduceIte,af,ah,ai,aj,ak,ap,aq,au,av,zh,zi,zj,hj,AZ,OQ j hj,hB,cI,Bool.not_false,Bool.true_or]
    |true=>
     by_cases h0:gt A j=0
     ·rw[h0]at hB ez
      refine⟨by rw[h0];exact ez,λq2=>?_⟩
      have IL:=OQ j hj
      rw[h0]at IL
      simp(disch:=omega) only[↓pq,↓pj,ps,pz,↓reduceIte,af,ah,ai,aj,ak,ap,aq,au,av,zh,zi,zj,hj,AZ,IL,h0,hB,beq_self_eq_true,Bool.or_true]
     ·have dI:(gt A j==0)=false:=by simpa using h0
      rw[dI]
      refine⟨ho,λq2=>?_⟩
      simp(disch:=omega) only[↓pq,↓pj,ps,pz,↓reduceIte,af,ah,ai,aj,ak,ap,aq,au,av,zh,zi,zj,hj,h0,Bool.not_true,Bool.or_false,cI]
   ·intro o q2 ho
    cases o with
    |none=>simp(disch:=omega) only[↓pq,↓pj,ps,pz,↓reduceIte,af,ah,ai,aj,ak,ap,aq,au,av,zh,zi,zj,cI,Option.isSome_none];simp
    |some b=>simp(disch:=omega) only[↓pq,↓pj,ps,pz,↓reduceIte,af,ah,ai,aj,ak,ap,aq,au,av,zh,zi,zj,Option.isSome_some,D5];simp
  ·intro c q' hc
   simp(disch:=omega) only[↓pq,↓pj,ps,pz,↓reduceIte,af,ah,ai,aj,ak,ap,aq,au,av,zh,zi,zj,]
  ·rw[ON (λi:Nat=>(if dY (within s A fr) ((i:Int)+1)<0 then kf (yr s A z fr ((i:Int)+1))else none).toList),List.nil_append]
   congr 3
   unfold beyond cF
   rw[DY,List.filterMap_map,D4]
   refine congrArg (λf=>List.map br (List.filterMap f (List.range 6))) (funext λi=>?_)
   show _=kf _
   by_cases hp:dY (within s A fr) ((i:Int)+1)<0
   ·rw[if_pos hp]
    exact XL (v:=(i:Int)+1) aoI (aoJ hp)
   ·rw[if_neg hp,aoK hp]
    rfl
theorem D6(l:List Way)(v:Int):cY l v=l.find? λw=>w.to==v:=by
 cases h:l.find? (λw=>w.to==v)with
 |none=>
  cases h':cY l v with
  |none=>rfl
  |some w=>
   have:=xf h'
   have h2:=List.find?_eq_none.1 h w this.1
   simp[this.2]at h2
 |some w=>
  unfold cY dY
  have h0:0<=dz (λw:Way=>w.to==v) l:=by
   rcases Int.lt_or_le (dz (λw:Way=>w.to==v) l) 0 with h1|h1
   ·have:=(EN _ _).1 h1 w (List.mem_of_find?_eq_some h)
    have h2:=List.find?_some h
    rw[this]at h2;cases h2
   ·exact h1
  rw[if_neg (by omega)]
  unfold dz at h0⊢
  cases h':l.findIdx? (λw:Way=>w.to==v)with
  |none=>rw[h']at h0;exact absurd h0 (by decide)
  |some i=>
   obtain⟨h1,h2,h3⟩:=List.findIdx?_eq_some_iff_getElem.1 h'
   show some (gt l (i:Int))=some w
   rw[ed h1]
   obtain⟨e,as,bs,e1,e2⟩:=List.find?_eq_some_iff_append.1 h
   subst e1
   congr 1
   rcases Nat.lt_trichotomy i as.length with h4|h4|h4
   ·have h5:=e2 as[i] (List.getElem_mem h4)
    rw[List.getElem_append_left h4]at h2
    rw[h2]at h5;cases h5
   ·subst h4;simp
   ·have h5:=h3 as.length h4
    simp at h5 e
    exact absurd e h5
theorem XX(a b:List Way)(v:Int):cY (a++b) v=(cY a v).or (cY b v):=by
 rw[D6,D6,D6,List.find?_append]
def mV(W:List Way):Prop:=W.length<=1000∧∀w∈W,fo w.aF∧0<=w.cost∧w.cost<=100000
theorem mV.app{a b:List Way}(ha:a.length<=100)(hb:b.length<=100)(h:mV a)(h':mV b):mV (a++b):=
 ⟨by simp;omega,λw hw=>(List.mem_append.1 hw).elim (h.2 w) (h'.2 w)⟩
def sn(W:List Way)(fr:Int)(x:ay):Option Way:=if x.owner=fr then some wz else cY W x.owner
theorem OY{W:List Way}(hW:mV W){fr:Int}{x:ay}{w:Way}(h:sn W fr x=some w):fo w.aF∧0<=w.cost∧w.cost<=100000:=by
 unfold sn at h
 split at h
 ·cases h;exact⟨DP,by decide,by decide⟩
 ·exact hW.2 w (xf h).1
def E2(W:List Way)(key fr:Int)(x:ay):Option Way:=if x.kind=3∧x.key=key∧x.cost<60000 then sn W fr x else none
theorem XY{W:List Way}{key fr:Int}{x:ay}{w:Way}(h:E2 W key fr x=some w):(x.kind=3∧x.key=key∧x.cost<60000)∧sn W fr x=some w:=by
 unfold E2 at h
 split at h
 ·rename_i hc;exact⟨hc,h⟩
 ·cases h
def yu(f:Option (Int×Way))(c:Int)(w:Way):Option (Int×Way):=
 match f with
 |none=>some (c,w)
 |some (l,b)=>if c=l then some (l,jI b w)else if c<l then some (c,w)else some (l,b)
def wv(W:List Way)(key fr:Int)(o:Option Way)(x:ay):Option Way:=if x.eY=true then o else match E2 W key fr x with|none=>o|some w=>mT o ⟨key,w.cost+x.cost,w.aF⟩
def ww(W:List Way)(key fr:Int)(f:Option (Int×Way))(x:ay):Option (Int×Way):=if x.eY=true then match E2 W key fr x with|none=>f|some w=>yu f x.cost ⟨key,w.cost,w.aF⟩else f
def fW(f:Option (Int×Way)):Way:=(f.getD (0,wz)).2
def fL(f:Option (Int×Way)):Int:=(f.getD (0,wz)).1
theorem A0(c:Int)(w:Way):fW (some (c,w))=w:=rfl
theorem A1(c:Int)(w:Way):fL (some (c,w))=c:=rfl
def XZ(o:Option Way):Prop:=∀b,o=some b->fo b.aF
def X0(f:Option (Int×Way)):Prop:=∀c b,f=some (c,b)->fo b.aF
theorem aoM{o:Option Way}(ho:XZ o){w:Way}(hw:fo w.aF):XZ (mT o w):=
 OX (l:=[w]) ho (by intro y hy;rw[List.mem_singleton]at hy;subst hy;exact hw)
theorem aoN{f:Option (Int×Way)}(hf:X0 f){c:Int}{w:Way}(hw:fo w.aF):X0 (yu f c w):=by
 intro d b e
 unfold yu at e
 split at e
 ·cases e;exact hw
 ·rename_i l b0
  split at e
  ·cases e;exact H6 (hf _ _ rfl) hw
  ·split at e
   ·cases e;exact hw
   ·cases e;exact hf _ _ rfl
theorem aoO{W:List Way}(hW:mV W){key fr:Int}{o:Option Way}(ho:XZ o)(x:ay):XZ (wv W key fr o x):=by
 unfold wv
 split
 ·exact ho
 ·split
  ·exact ho
  ·rename_i w hw
   exact aoM ho (OY hW (XY hw).2).1
theorem aoP{W:List Way}(hW:mV W){key fr:Int}{f:Option (Int×Way)}(hf:X0 f)(x:ay):X0 (ww W key fr f x):=by
 unfold ww
 split
 ·split
  ·exact hf
  ·rename_i w hw
   exact aoN hf (OY hW (XY hw).2).1
 ·exact hf
theorem aoQ{α β γ:Type}(f:β->α->β)(g:γ->α->γ)(l:List α)(b:β)(c:γ):l.foldl (λp x=>(f p.1 x,g p.2 x)) (b,c)=(l.foldl f b,l.foldl g c):=by
 induction l generalizing b c with
 |nil=>rfl
 |cons a l ih=>exact ih _ _
def D7(s:List ay)(W:List Way)(key fr:Int):Option Way:=s.foldl (wv W key fr) none
def yv(s:List ay)(W:List Way)(key fr:Int):Option (Int×Way):=s.foldl (ww W key fr) none
def A2(s:List ay)(W:List Way)(key fr:Int):Option ef:=
 match D7 s W key fr with
 |some b=>some ⟨true,key,3,b.cost,0,b.aF⟩
 |none=>match yv s W key fr with
  |some (l,b)=>some ⟨true,key,4,b.cost,l,b.aF⟩
  |none=>none
theorem aoR(s:List ay)(W:List Way)(key fr:Int)(h:s.length<=1048576)(hs:eA s=true)(hW:mV W):
  AG [.l (s.map aC),ii key,ii fr,.l (W.map br)]=some (match A2 s W key fr with|some r=>j_ r++[bb true]|none=>[bb true,ii key,ii 4,ii 0,ii 0,.l [],bb false]):=by
 rw[anz];simp(disch:=omega) only[↓pq,↓pj,ps,pz,↓reduceIte,af,ah,ai,aj,ak,ap,aq,au,av,tG,N4]
 refine(g_ s (λj p=>[bb p.1.isSome,bb p.2.isSome,ii (fL p.2),ii j,ii (oW p.1).to,ii (oW p.1).cost,.l ((oW p.1).aF.map aD),ii (fW p.2).to,ii (fW p.2).cost,.l ((fW p.2).aF.map aD)]) (λp x=>(wv W key fr p.1 x,ww W key fr p.2 x))
  (λp=>some (match p.1 with|some b=>[bb true,ii key,ii 3,ii b.cost,ii 0,.l (b.aF.map aD),bb true]|none=>[bb true,ii key,ii 4,ii (fW p.2).cost,ii (fL p.2),.l ((fW p.2).aF.map aD),bb p.2.isSome])) ((none,none):Option Way×Option (Int×Way)) (λ_ p=>XZ p.1∧X0 p.2) rfl (dh h) ⟨by intro b hb;(cases hb),by intro c b hb;(cases hb)⟩ ?_ ?_).trans ?_
 ·rintro j ⟨o,f⟩ hj ⟨ho,hf⟩
  have hm:=gZ (l:=s) (n:=(j:Int)) (by omega) hj
  have hc:=XS hs hm
  refine⟨⟨aoO hW ho _,aoP hW hf _⟩,λq=>?_⟩
  have hT:=HU W (gt s j).owner (by have:=hW.1;omega) (λw hw=>by have:=sf (hW.2 w hw).1;omega)
  have dB:E2 W key fr (gt s j)=none->(wv W key fr o (gt s j),ww W key fr f (gt s j))=(o,f):=by
   intro e;unfold wv ww;rw[e];simp
  by_cases k1:(gt s j).kind=3∧(gt s j).key=key∧(gt s j).cost<60000
  rotate_left
  ·rw[dB (by unfold E2;rw[if_neg k1])]
   by_cases a1:(gt s j).kind=3
   ·by_cases a2:(gt s j).key=key
    ·have a3:(gt s j).cost>=60000:=by
      rcases Int.lt_or_le (gt s j).cost 60000 with h|h
      ·exact absurd ⟨a1,a2,h⟩ k1
      ·exact h
     simp(disch:=omega) only[↓pq,↓pj,ps,pz,↓reduceIte,af,ah,ai,aj,ak,ap,aq,au,av,tG,hj,a1,a2,a3]
    ·simp(disch:=omega) only[↓pq,↓pj,ps,pz,↓reduceIte,af,ah,ai,aj,ak,ap,aq,au,av,tG,hj,a1,a2]
   ·simp(disch:=omega) only[↓pq,↓pj,ps,pz,↓reduceIte,af,ah,ai,aj,ak,ap,aq,au,av,tG,hj,a1]
  obtain⟨a1,a2,a3⟩:=k1
  have A3:¬(gt s j).cost>=60000:=by omega
  have ue:E2 W key fr (gt s j)=sn W fr (gt s j):=by unfold E2;rw[if_pos ⟨a1,a2,a3⟩]
  have hTr:∃r1 r2 r3 r4,AC [.l (W.map br),ii (gt s j).owner]=some [r1,r2,r3,r4]:=by
   rw[hT];split
   ·exact⟨_,_,_,_,rfl⟩
   ·exact⟨_,_,_,_,rfl⟩
  by_cases sE:(gt s j).owner=fr
  ·obtain⟨r1,r2,r3,r4,hr⟩:=hTr
   have hO:sn W fr (gt s j)=some wz:=by unfold sn;rw[if_pos sE]
   generalize hwz:wz=w at hO
   have wR:w.cost=0:=by rw[<-hwz];rfl
   have qG:w.aF=[]:=by rw[<-hwz];rfl
   have FE:(T.l []:T)=.l (w.aF.map aD):=by rw[qG];rfl
   rw[sE]at hr
   cases jZ:(gt s j).eY with
   |false=>
    have e1:wv W key fr o (gt s j)=mT o ⟨key,w.cost+(gt s j).cost,w.aF⟩:=by unfold wv;rw[jZ,ue,hO];rfl
    have e2:ww W key fr f (gt s j)=f:=by unfold ww;rw[jZ];rfl
    rw[e1,e2]
    cases o with
    |none=>simp(disch:=omega) only[↓pq,↓pj,ps,pz,↓reduceIte,af,ah,ai,aj,ak,ap,aq,au,av,tG,hj,a1,a2,A3,hr,sE,wR,qG,Int.zero_add,jZ,Option.isSome_none,cI];rfl
    |some b=>
     have tg:sa [ii b.to,ii b.cost,.l (b.aF.map aD),ii key,ii ((gt s j).cost),.l []]=some [ii (jI b ⟨key,(gt s j).cost,[]⟩).to,ii (jI b ⟨key,(gt s j).cost,[]⟩).cost,.l ((jI b ⟨key,(gt s j).cost,[]⟩).aF.map aD)]:=H0 b.to b.cost b.aF key ((gt s j).cost) [] (ho b rfl) DP
     simp(disch:=omega) only[↓pq,↓pj,ps,pz,↓reduceIte,af,ah,ai,aj,ak,ap,aq,au,av,tG,hj,a1,a2,A3,hr,sE,wR,qG,Int.zero_add,jZ,Option.isSome_some,D5,cI,tg];rfl
   |true=>
    have e1:wv W key fr o (gt s j)=o:=by unfold wv;rw[jZ];rfl
    have e2:ww W key fr f (gt s j)=yu f (gt s j).cost ⟨key,w.cost,w.aF⟩:=by unfold ww;rw[jZ,ue,hO];rfl
    rw[e1,e2]
    cases f with
    |none=>simp(disch:=omega) only[↓pq,↓pj,ps,pz,↓reduceIte,af,ah,ai,aj,ak,ap,aq,au,av,tG,hj,a1,a2,A3,hr,sE,wR,qG,Int.zero_add,jZ,Option.isSome_none,cI];rfl
    |some lb=>
     obtain⟨l,b⟩:=lb
     unfold yu
     by_cases q1:(gt s j).cost=l
     ·have q2:(gt s j).cost<=l:=by omega
      have q3:l<=l:=by omega
      have q4:¬l>=60000:=by omega
      simp only[q1,if_true]
      have tg:sa [ii b.to,ii b.cost,.l (b.aF.map aD),ii key,ii 0,.l []]=some [ii (jI b ⟨key,0,[]⟩).to,ii (jI b ⟨key,0,[]⟩).cost,.l ((jI b ⟨key,0,[]⟩).aF.map aD)]:=H0 b.to b.cost b.aF key 0 [] (hf l b rfl) DP
      simp(disch:=omega) only[↓pq,↓pj,ps,pz,↓reduceIte,af,ah,ai,aj,ak,ap,aq,au,av,tG,hj,a1,a2,A3,hr,sE,wR,qG,Int.zero_add,jZ,Option.isSome_some,A0,A1,q1,q3,q4,cI,tg];try rfl
     ·simp only[q1,if_false]
      by_cases q2:(gt s j).cost<l
      ·have q3:(gt s j).cost<=l:=by omega
       simp only[q2,if_true]
       simp(disch:=omega) only[↓pq,↓pj,ps,pz,↓reduceIte,af,ah,ai,aj,ak,ap,aq,au,av,tG,hj,a1,a2,A3,hr,sE,wR,qG,Int.zero_add,jZ,Option.isSome_some,A0,A1,q1,q3,cI];try rfl
      ·have q3:¬(gt s j).cost<=l:=by omega
       simp only[q2,if_false]
       simp(disch:=omega) only[↓pq,↓pj,ps,pz,↓reduceIte,af,ah,ai,aj,ak,ap,aq,au,av,tG,hj,a1,a2,A3,hr,sE,wR,qG,Int.zero_add,jZ,Option.isSome_some,A0,A1,q1,q3,cI];try rfl
  by_cases hp:dY W (gt s j).owner<0
  ·have hO:sn W fr (gt s j)=none:=by unfold sn cY;rw[if_neg sE,if_pos hp]
   rw[dB (by rw[ue,hO])]
   rw[if_pos hp]at hT
   simp(disch:=omega) only[↓pq,↓pj,ps,pz,↓reduceIte,af,ah,ai,aj,ak,ap,aq,au,av,tG,hj,a1,a2,A3,hT,sE,cI]
  ·have hO:sn W fr (gt s j)=some (gt W (dY W (gt s j).owner)):=by unfold sn cY;rw[if_neg sE,if_neg hp]
   rw[if_neg hp]at hT
   generalize gt W (dY W (gt s j).owner)=w at hO hT
   have hw:=OY hW hO
   have qI:=sf hw.1
   simp only[br,List.cons_append,List.nil_append]at hT
   cases jZ:(gt s j).eY with
   |false=>
    have e1:wv W key fr o (gt s j)=mT o ⟨key,w.cost+(gt s j).cost,w.aF⟩:=by unfold wv;rw[jZ,ue,hO];rfl
    have e2:ww W key fr f (gt s j)=f:=by unfold ww;rw[jZ];rfl
    rw[e1,e2]
    cases o with
    |none=>simp(disch:=omega) only[↓pq,↓pj,ps,pz,↓reduceIte,af,ah,ai,aj,ak,ap,aq,au,av,tG,hj,a1,a2,A3,hT,sE,jZ,Option.isSome_none,cI];rfl
    |some b=>
     have tg:sa [ii b.to,ii b.cost,.l (b.aF.map aD),ii key,ii (w.cost+(gt s j).cost),.l (w.aF.map aD)]=some [ii (jI b ⟨key,w.cost+(gt s j).cost,w.aF⟩).to,ii (jI b ⟨key,w.cost+(gt s j).cost,w.aF⟩).cost,.l ((jI b ⟨key,w.cost+(gt s j).cost,w.aF⟩).aF.map aD)]:=H0 b.to b.cost b.aF key (w.cost+(gt s j).cost) w.aF (ho b rfl) hw.1
     simp(disch:=omega) only[↓pq,↓pj,ps,pz,↓reduceIte,af,ah,ai,aj,ak,ap,aq,au,av,tG,hj,a1,a2,A3,hT,sE,jZ,Option.isSome_some,D5,cI,tg];rfl
   |true=>
    have e1:wv W key fr o (gt s j)=o:=by unfold wv;rw[jZ];rfl
    have e2:ww W key fr f (gt s j)=yu f (gt s j).cost ⟨key,w.cost,w.aF⟩:=by unfold ww;rw[jZ,ue,hO];rfl
    rw[e1,e2]
    cases f with
    |none=>simp(disch:=omega) only[↓pq,↓pj,ps,pz,↓reduceIte,af,ah,ai,aj,ak,ap,aq,au,av,tG,hj,a1,a2,A3,hT,sE,jZ,Option.isSome_none,cI];rfl
    |some lb=>
     obtain⟨l,b⟩:=lb
     unfold yu
     by_cases q1:(gt s j).cost=l
     ·have q2:(gt s j).cost<=l:=by omega
      have q3:l<=l:=by omega
      have q4:¬l>=60000:=by omega
      simp only[q1,if_true]
      have tg:sa [ii b.to,ii b.cost,.l (b.aF.map aD),ii key,ii w.cost,.l (w.aF.map aD)]=some [ii (jI b ⟨key,w.cost,w.aF⟩).to,ii (jI b ⟨key,w.cost,w.aF⟩).cost,.l ((jI b ⟨key,w.cost,w.aF⟩).aF.map aD)]:=H0 b.to b.cost b.aF key w.cost w.aF (hf l b rfl) hw.1
      simp(disch:=omega) only[↓pq,↓pj,ps,pz,↓reduceIte,af,ah,ai,aj,ak,ap,aq,au,av,tG,hj,a1,a2,A3,hT,sE,jZ,Option.isSome_some,A0,A1,q1,q3,q4,cI,tg];try rfl
     ·simp only[q1,if_false]
      by_cases q2:(gt s j).cost<l
      ·have q3:(gt s j).cost<=l:=by omega
       simp only[q2,if_true]
       simp(disch:=omega) only[↓pq,↓pj,ps,pz,↓reduceIte,af,ah,ai,aj,ak,ap,aq,au,av,tG,hj,a1,a2,A3,hT,sE,jZ,Option.isSome_some,A0,A1,q1,q3,cI];try rfl
      ·have q3:¬(gt s j).cost<=l:=by omega
       simp only[q2,if_false]
       simp(disch:=omega) only[↓pq,↓pj,ps,pz,↓reduceIte,af,ah,ai,aj,ak,ap,aq,au,av,tG,hj,a1,a2,A3,hT,sE,jZ,Option.isSome_some,A0,A1,q1,q3,cI];try rfl
 ·rintro⟨o,f⟩ q ⟨ho,hf⟩
  cases o with
  |none=>simp(disch:=omega) only[↓pq,↓pj,ps,pz,↓reduceIte,af,ah,ai,aj,ak,ap,aq,au,av,tG,Option.isSome_none,cI]
  |some b=>simp(disch:=omega) only[↓pq,↓pj,ps,pz,↓reduceIte,af,ah,ai,aj,ak,ap,aq,au,av,tG,Option.isSome_some,D5]
 ·rw[aoQ]
  show some (match D7 s W key fr with|some b=>_|none=>_)=_
  unfold A2
  show some (match D7 s W key fr with|some b=>_|none=>[bb true,ii key,ii 4,ii (fW (yv s W key fr)).cost,ii (fL (yv s W key fr)),.l ((fW (yv s W key fr)).aF.map aD),bb (yv s W key fr).isSome])=_
  cases D7 s W key fr with
  |some b=>rfl
  |none=>cases yv s W key fr with
   |none=>rfl
   |some lb=>rfl
def upto(n:Nat):List Int:=(List.range n).map λi:Nat=>(i:Int)+1
theorem X1{n:Nat}{x:Int}:x∈upto n↔1<=x∧x<=n:=by
 unfold upto
 rw[List.mem_map]
 constructor
 ·rintro⟨i,hi,rfl⟩
  have:=List.mem_range.1 hi
  omega
 ·intro h
  exact⟨(x-1).toNat,List.mem_range.2 (by omega),by omega⟩
theorem X2(n:Nat):(upto n).Pairwise (· < ·):=by
 unfold upto
 rw[List.pairwise_map]
 exact List.pairwise_lt_range.imp λ{a b} h=>by omega
theorem X3{n:Nat}{l:List Int}(h:l.Pairwise (· < ·))(hm:∀x∈l,1<=x∧x<=n):l=(upto n).filter λx=>l.contains x:=
 HR h ((X2 n).filter _) λx=>by
  rw[List.mem_filter,X1,List.contains_iff_mem]
  exact⟨λhx=>⟨hm x hx,hx⟩,λhx=>hx.2⟩
theorem A4{n:Nat}{l:List Int}(h:l.Pairwise (· < ·))(hm:∀x∈l,1<=x∧x<=n):l.length<=n:=by
 rw[X3 h hm]
 refine Nat.le_trans (List.length_filter_le _ _) ?_
 unfold upto
 simp
theorem aoS{α:Type}{n:Nat}{l:List Int}(h:l.Pairwise (· < ·))(hm:∀x∈l,1<=x∧x<=n)(f:Int->Option α)(hf:∀x,x∉l->f x=none):l.filterMap f=(upto n).filterMap f:=by
 conv=>lhs;rw[X3 h hm]
 rw[List.filterMap_filter]
 refine congrArg (λg=>List.filterMap g (upto n)) (funext λx=>?_)
 cases hc:l.contains x with
 |true=>rfl
 |false=>
  rw[hf x (λhx=>by rw[List.contains_iff_mem.2 hx]at hc;cases hc)]
  rfl
theorem OZ{c:List Int}(h:c.Pairwise (· < ·))(hl:c.length<=1000)(n:Int){F:aB->aB}{s:aB}{st:List T}(cC:st=[ii 0])
  (h1:∀(k:Nat) (w:aB),(k:Int)<c.length->gt c (k:Int)<n->F w [ii k]=w [ii ((k:Int)+1)])
  (h2:∀(k:Nat) (w:aB),(k:Int)<c.length->gt c (k:Int)=n->F w [ii k]=s [.l (c.map aD)])
  (h3:∀(k:Nat) (w:aB),(k:Int)<c.length->¬gt c (k:Int)<n->gt c (k:Int)≠n->F w [ii k]=s [.l ((c.take k++([n]++c.drop k)).map aD)])
  (h4:∀(k:Nat) (w:aB),¬(k:Int)<c.length->k<=c.length->F w [ii k]=s [.l ((c.take k++([n]++c.drop k)).map aD)]):
  iter F rounds st=s [.l ((fR c n).map aD)]:=by
 have hle:=DQ c n
 obtain⟨c1,c2,c3⟩:=Oo h n
 refine AO (λk=>[ii k]) (dQ c n) cC (dh (by omega)) ?_ ?_
 ·intro k hk w
  exact h1 k w (by omega) (by rw[ed (by omega)];exact(c3 k (by omega)).2 (by omega))
 ·intro w
  by_cases bE:dQ c n<c.length
  ·have cO:¬(gt c ((dQ c n:Nat):Int)<n):=by rw[ed bE];intro tw;have:=(c3 _ bE).1 tw;omega
   have iC:=HX h bE
   by_cases jH:n∈c
   ·rw[HW h jH]
    exact h2 _ w (by omega) (iC.2 jH)
   ·rw[Jt h jH]
    exact h3 _ w (by omega) cO (λe=>jH (iC.1 e))
  ·rw[Jt h (HY h bE)]
   exact h4 _ w (by omega) hle
theorem aoT{c:List Int}(h:c.Pairwise (· < ·))(hl:c.length<=1000)(n:Int)(q:aB):
  iter (tH o8 (.l (c.map aD)) (ii n) q) rounds [ii 0]=q [.l ((fR c n).map aD)]:=by
 refine OZ h hl n rfl ?_ ?_ ?_ ?_
 ·intro k w eU cO
  simp(disch:=omega) only[↓pq,↓pj,ps,pz,↓reduceIte,af,ah,ai,aj,ak,ap,aq,au,av,uG,tH,uH,uI,uJ,eU,cO]
 ·intro k w eU cO
  have iC:¬n<n:=by omega
  simp(disch:=omega) only[↓pq,↓pj,ps,pz,↓reduceIte,af,ah,ai,aj,ak,ap,aq,au,av,uG,tH,uH,uI,uJ,eU,cO,iC]
 ·intro k w eU cO iC
  simp(disch:=omega) only[↓pq,↓pj,ps,pz,↓reduceIte,af,ah,ai,aj,ak,ap,aq,au,av,uG,tH,uH,uI,uJ,eU,cO,iC,rC _ (show(c.take k).length<=1048576 by simp;omega)]
  rw[Ar (by simp;omega),fU,xW (by simp;omega),fU,List.append_assoc]
 ·intro k w eU cO
  simp(disch:=omega) only[↓pq,↓pj,ps,pz,↓reduceIte,af,ah,ai,aj,ak,ap,aq,au,av,uG,tH,uH,uI,uJ,eU,rC _ (show(c.take k).length<=1048576 by simp;omega)]
  rw[Ar (by simp;omega),fU,xW (by simp;omega),fU,List.append_assoc]
theorem aoU{c:List Int}(h:c.Pairwise (· < ·))(hl:c.length<=1000)(n:Int)(q:aB):
  iter (wi o8 (.l (c.map aD)) (ii n) q) rounds [ii 0]=q [.l ((fR c n).map aD)]:=by
 refine OZ h hl n rfl ?_ ?_ ?_ ?_
 ·intro k w eU cO
  simp(disch:=omega) only[↓pq,↓pj,ps,pz,↓reduceIte,af,ah,ai,aj,ak,ap,aq,au,av,wi,wj,w8,eU,cO]
 ·intro k w eU cO
  have iC:¬n<n:=by omega
  simp(disch:=omega) only[↓pq,↓pj,ps,pz,↓reduceIte,af,ah,ai,aj,ak,ap,aq,au,av,wi,wj,w8,eU,cO,iC]
 ·intro k w eU cO iC
  simp(disch:=omega) only[↓pq,↓pj,ps,pz,↓reduceIte,af,ah,ai,aj,ak,ap,aq,au,av,wi,wj,w8,eU,cO,iC,rC _ (show(c.take k).length<=1048576 by simp;omega)]
  rw[Ar (by simp;omega),fU,xW (by simp;omega),fU,List.append_assoc]
 ·intro k w eU cO
  simp(disch:=omega) only[↓pq,↓pj,ps,pz,↓reduceIte,af,ah,ai,aj,ak,ap,aq,au,av,wi,wj,w8,eU,rC _ (show(c.take k).length<=1048576 by simp;omega)]
  rw[Ar (by simp;omega),fU,xW (by simp;omega),fU,List.append_assoc]
theorem aoV{c:List Int}(h:c.Pairwise (· < ·))(hl:c.length<=1000)(n:Int)(q:aB):
  iter (wj o8 (.l (c.map aD)) (ii n) q) rounds [ii 0]=q [.l ((fR c n).map aD)]:=by
 refine OZ h hl n rfl ?_ ?_ ?_ ?_
 ·intro k w eU cO
  simp(disch:=omega) only[↓pq,↓pj,ps,pz,↓reduceIte,af,ah,ai,aj,ak,ap,aq,au,av,wi,wj,w8,eU,cO]
 ·intro k w eU cO
  have iC:¬n<n:=by omega
  simp(disch:=omega) only[↓pq,↓pj,ps,pz,↓reduceIte,af,ah,ai,aj,ak,ap,aq,au,av,wi,wj,w8,eU,cO,iC]
 ·intro k w eU cO iC
  simp(disch:=omega) only[↓pq,↓pj,ps,pz,↓reduceIte,af,ah,ai,aj,ak,ap,aq,au,av,wi,wj,w8,eU,cO,iC,rC _ (show(c.take k).length<=1048576 by simp;omega)]
  rw[Ar (by simp;omega),fU,xW (by simp;omega),fU,List.append_assoc]
 ·intro k w eU cO
  simp(disch:=omega) only[↓pq,↓pj,ps,pz,↓reduceIte,af,ah,ai,aj,ak,ap,aq,au,av,wi,wj,w8,eU,rC _ (show(c.take k).length<=1048576 by simp;omega)]
  rw[Ar (by simp;omega),fU,xW (by simp;omega),fU,List.append_assoc]
theorem aoW{s:List ay}{ar fr:Int}{w:Way}(hw:w∈aH s ar fr):∃v∈aH s ar fr,v.to=fr:=by
 unfold aH at hw⊢
 by_cases hc:eA s=true∧jO fr 1 6=true∧0<=iz s ar fr
 ·rw[if_pos hc]at hw⊢
  obtain⟨D,hI⟩:=OM hc.1 ar fr 6 (W0 fr) [] (gU.start (aZ.1 hc.2.1))
  have hl:=hI.ok.len
  obtain⟨h1,h2⟩:=List.mem_filter.1 hw
  have h2:w.to≠0:=by simpa using h2
  obtain⟨i,hi,rfl⟩:=List.mem_iff_getElem.1 h1
  have nK:=hI.ok.to (i:Int) (by omega) (by omega)
  rw[ed hi]at nK
  have nK:=nK.resolve_left h2
  rcases hI.first with⟨_,hf⟩|hf
  ·have SG:=hI.fr6
   have:=hf (i:Int) (by omega) (by omega) (by rw[ed hi];exact h2)
   exact⟨_,hw,by rw[nK,this]⟩
  ·have h3:=hI.mem fr hf
   have h4:=hI.fr6
   have h5:=(hI.ok.to fr (by omega) (by omega)).resolve_left h3.2
   refine⟨_,List.mem_filter.2 ⟨gZ (n:=fr) (by omega) (by omega),?_⟩,h5⟩
   simpa using h3.2
 ·rw[if_neg hc]at hw;cases hw
theorem aoX{l:List Way}{w:Way}(h:w∈l):¬dY l w.to<0:=by
 intro hc
 have:=(EN _ _).1 hc w h
 simp at this
theorem aoY{s:List ay}{A:List Int}{fr:Int}{v:Way}(h:v∈mU s A fr):¬dY (within s A fr) v.to<0:=by
 rcases E0 (v:=v.to) _ ((mU s A fr).filter λw=>w.to==v.to) rfl (λy hy=>by have:=List.mem_filter.1 hy;exact⟨by simpa using this.2,(E1 y this.1).2.1⟩)with⟨e,_⟩|⟨b,e,hb,_⟩
 ·have:v∈(mU s A fr).filter λw=>w.to==v.to:=List.mem_filter.2 ⟨h,by simp⟩
  rw[e]at this;cases this
 ·have hm:b∈within s A fr:=(D1 (λx hx=>(E1 x hx).2.1)).2 ⟨by rw[hb];exact(E1 v h).1,by rw[hb];exact e⟩
  rw[<-hb]
  exact aoX hm
theorem D8{s:List ay}{A:List Int}{z:Bool}{fr:Int}{w:Way}(h:w∈beyond s A z fr):(1<=w.to∧w.to<=6)∧fo w.aF∧(0<=w.cost∧w.cost<60000)∧w.to≠fr∧dY (within s A fr) w.to<0:=by
 have h1:=AY (λx hx=>(XV x hx).2.1) h
 obtain⟨hh,y,hy,e1,e2⟩:=h1
 have h2:=XV y hy
 obtain⟨x,hx,h3⟩:=List.mem_filterMap.1 hy
 obtain⟨h4,y',h5,h6,h7⟩:=OR h3
 have hk:x.key=w.to:=by rw[<-e1,h7]
 refine⟨by rw[<-e1];exact h2.1,hh,by rw[<-e2];exact h2.2.2,?_,by rw[<-hk];exact h4.2.2.2.2.2⟩
 intro e
 obtain⟨v,hv,ev⟩:=aoW (xf h5).1
 have hc:v∈mU s A fr:=List.mem_flatMap.2 ⟨x.ae,List.contains_iff_mem.1 h4.2.2.2.1,hv⟩
 have h8:=aoY hc
 have he:v.to=x.key:=by omega
 rw[he]at h8
 exact h8 h4.2.2.2.2.2
theorem Ii{s:List ay}{A:List Int}{fr:Int}{w:Way}(h:w∈within s A fr):(1<=w.to∧w.to<=6)∧fo w.aF∧(0<=w.cost∧w.cost<=6000):=by
 obtain⟨hh,y,hy,e1,e2⟩:=AY (λx hx=>(E1 x hx).2.1) h
 have:=E1 y hy
 exact⟨by rw[<-e1];exact this.1,hh,by rw[<-e2];exact this.2.2⟩
theorem aoZ{s:List ay}{A:List Int}{fr:Int}:mV (within s A fr):=⟨Nat.le_trans OT (by omega),λw hw=>by
 have:=Ii hw
 exact⟨this.2.1,this.2.2.1,by omega⟩⟩
theorem D9{s:List ay}{A:List Int}{z:Bool}{fr:Int}:(beyond s A z fr).length<=6:=D3 _
theorem ao0{s:List ay}{A:List Int}{z:Bool}{fr:Int}:mV (beyond s A z fr):=⟨Nat.le_trans D9 (by omega),λw hw=>by
 have:=D8 hw
 exact⟨this.2.1,this.2.2.1.1,by omega⟩⟩
def O0(w:Way):ef:=⟨false,w.to,1,w.cost,0,w.aF⟩
def Ij(w:Way):ef:=⟨false,w.to,2,w.cost,0,w.aF⟩
def A5(s:List ay)(A:List Int)(z:Bool)(fr:Int):List ef:=
 ((within s A fr).filter λw=>!(w.to==fr)).map O0++(beyond s A z fr).map Ij++(upto 9).filterMap λk=>A2 s (within s A fr++beyond s A z fr) k fr
theorem X4{s:List ay}(hs:eA s=true){x:ay}(hx:x∈s)(h:x.kind=3):1<=x.key∧x.key<=9:=by
 have:=B6 hs hx
 unfold fu at this
 rw[if_neg (by omega),if_neg (by omega),if_pos h]at this
 simp only[bI,aZ]at this
 exact this.2.1.1.2
theorem ao1{s:List ay}{W:List Way}{key fr:Int}(h:∀x∈s,¬(x.kind=3∧x.key=key∧x.cost<60000)):A2 s W key fr=none:=by
 have h1:∀l:List ay,(∀x∈l,x∈s)->l.foldl (wv W key fr) none=none∧l.foldl (ww W key fr) none=none:=by
  intro l hl
  induction l with
  |nil=>exact⟨rfl,rfl⟩
  |cons x l ih=>
   have hx:E2 W key fr x=none:=by unfold E2;rw[if_neg (h x (hl x (.head _)))]
   have e1:wv W key fr none x=none:=by unfold wv;rw[hx];simp
   have e2:ww W key fr none x=none:=by unfold ww;rw[hx];simp
   rw[List.foldl_cons,List.foldl_cons,e1,e2]
   exact ih λy hy=>hl y (.tail _ hy)
 unfold A2 D7 yv
 rw[(h1 s λ_ h=>h).1,(h1 s λ_ h=>h).2]
def Ik(s:List ay):List Int:=s.foldl (λc x=>if x.kind=3∧x.cost<60000 then fR c x.key else c) []
theorem ao2(s:List ay)(c:List Int)(hc:c.Pairwise (· < ·)):let K:=s.foldl (λc x=>if x.kind=3∧x.cost<60000 then fR c x.key else c) c;K.Pairwise (· < ·)∧∀k,k∈K↔k∈c∨∃x∈s,(x.kind=3∧x.cost<60000)∧x.key=k:=by
 induction s generalizing c with
 |nil=>exact⟨hc,by simp⟩
 |cons x s ih=>
  rw[List.foldl_cons]
  by_cases h:x.kind=3∧x.cost<60000
  ·rw[if_pos h]
   obtain⟨h1,h2⟩:=ih _ (EU hc x.key)
   refine⟨h1,λk=>?_⟩
   rw[h2,iI]
   simp only[List.mem_cons]
   constructor
   ·rintro((e|e)|⟨y,hy,e⟩)
    ·exact .inr ⟨x,.inl rfl,h,e.symm⟩
    ·exact .inl e
    ·exact .inr ⟨y,.inr hy,e⟩
   ·rintro(e|⟨y,rfl|hy,e⟩)
    ·exact .inl (.inr e)
    ·exact .inl (.inl e.2.symm)
    ·exact .inr ⟨y,hy,e⟩
  ·rw[if_neg h]
   obtain⟨h1,h2⟩:=ih _ hc
   refine⟨h1,λk=>?_⟩
   rw[h2]
   simp only[List.mem_cons]
   constructor
   ·rintro(e|⟨y,hy,e⟩)
    ·exact .inl e
    ·exact .inr ⟨y,.inr hy,e⟩
   ·rintro(e|⟨y,rfl|hy,e⟩)
    ·exact .inl e
    ·exact absurd e.1 h
    ·exact .inr ⟨y,hy,e⟩
theorem ao3{s:List ay}(hs:eA s=true):(Ik s).Pairwise (· < ·)∧(∀k∈Ik s,1<=k∧k<=9)∧∀k,k∉Ik s->∀W fr,A2 s W k fr=none:=by
 obtain⟨h1,h2⟩:=ao2 s [] .nil
 refine⟨h1,λk hk=>?_,λk hk W fr=>ao1 λx hx hc=>hk ?_⟩
 ·rcases(h2 k).1 hk with h|⟨x,hx,h,rfl⟩
  ·cases h
  ·exact X4 hs hx h.1
 ·exact(h2 k).2 (.inr ⟨x,hx,⟨hc.1,hc.2.2⟩,hc.2.1⟩)
theorem ao4(s:List ay)(A:List Int)(z:Bool)(fr:Int)(h:s.length<=1048576)(hn:bh s)(hs:eA s=true)(ha:A.length<=1048576):Rn [.l (s.map aC),.l (A.map aD),bb z,ii fr]=some [.l ((A5 s A z fr).map j_)]:=by
 have hwl:=OT (s:=s) (A:=A) (fr:=fr)
 have uW:=D9 (s:=s) (A:=A) (z:=z) (fr:=fr)
 rw[anB];simp(disch:=omega) only[↓pq,↓pj,ps,pz,↓reduceIte,af,ah,ai,aj,ak,ap,aq,au,av,uG,tH,uH,uI,uJ,N5,kX_ _ _ _ h hn ha,XW _ _ _ _ h hn ha]
 refine(g_ (within s A fr) (λj C=>[.l (C.map j_),ii j,.l ((within s A fr).map br)]) (λC w=>if(!(w.to==fr))=true then C++[O0 w]else C) (λC=>some [T.l ((C++(beyond s A z fr).map Ij++(upto 9).filterMap λk=>A2 s (within s A fr++beyond s A z fr) k fr).map j_)]) [] (λj C=>C.length<=j) rfl (dh (by omega)) (by simp) ?_ ?_).trans (by rw[GC,List.nil_append];rfl)
 ·intro j C hj hC
  have hm:=Ii (gZ (l:=within s A fr) (n:=(j:Int)) (by omega) hj)
  have qY:=rC (gt (within s A fr) (j:Int)).aF (by have:=sf hm.2.1;omega)
  refine⟨by split;(· simp;omega);(· omega),λq=>?_⟩
  by_cases k:(gt (within s A fr) (j:Int)).to=fr
  ·have:(!((gt (within s A fr) (j:Int)).to==fr))=false:=by simpa using k
   rw[this]
   simp(disch:=omega) only[↓pq,↓pj,ps,pz,↓reduceIte,af,ah,ai,aj,ak,ap,aq,au,av,uG,tH,uH,uI,uJ,hj,k,cI]
  ·have:(!((gt (within s A fr) (j:Int)).to==fr))=true:=by simpa using k
   rw[this]
   simp(disch:=omega) only[↓pq,↓pj,ps,pz,↓reduceIte,af,ah,ai,aj,ak,ap,aq,au,av,uG,tH,uH,uI,uJ,hj,k,qY,O0]
 ·intro C q hC
  have hC6:C.length<=6:=by omega
  simp(disch:=omega) only[↓pq,↓pj,ps,pz,↓reduceIte,af,ah,ai,aj,ak,ap,aq,au,av,uG,tH,uH,uI,uJ,]
  refine(g_ (beyond s A z fr) (λj C=>[.l (C.map j_),ii j,.l ((beyond s A z fr).map br)]) (λC w=>C++[Ij w]) (λC=>some [T.l ((C++(upto 9).filterMap λk=>A2 s (within s A fr++beyond s A z fr) k fr).map j_)]) C (λj C=>C.length<=6+j) rfl (dh (by omega)) (by omega) ?_ ?_).trans (by rw[foldl_map])
  ·intro j C hj hC
   have hm:=D8 (gZ (l:=beyond s A z fr) (n:=(j:Int)) (by omega) hj)
   have qY:=rC (gt (beyond s A z fr) (j:Int)).aF (by have:=sf hm.2.1;omega)
   refine⟨by simp;omega,λq=>?_⟩
   simp(disch:=omega) only[↓pq,↓pj,ps,pz,↓reduceIte,af,ah,ai,aj,ak,ap,aq,au,av,uG,tH,uH,uI,uJ,hj,qY,Ij]
  ·intro C q hC
   have au7:C.length<=12:=by omega
   obtain⟨t1,t2,t3⟩:=ao3 hs
   have ht9:(Ik s).length<=9:=A4 t1 t2
   simp(disch:=omega) only[↓pq,↓pj,ps,pz,↓reduceIte,af,ah,ai,aj,ak,ap,aq,au,av,uG,tH,uH,uI,uJ,]
   refine(g_ s (λj c=>[.l (c.map aD),ii j]) (λc x=>if x.kind=3∧x.cost<60000 then fR c x.key else c) (λK=>some [T.l ((C++K.filterMap λk=>A2 s (within s A fr++beyond s A z fr) k fr).map j_)]) [] (λj c=>c.Pairwise (· < ·)∧∀x∈c,1<=x∧x<=((9:Nat):Int)) rfl (dh h) ⟨.nil,by simp⟩ ?_ ?_).trans (by rw[<-aoS t1 t2 _ (λk hk=>t3 k hk _ _)];rfl)
   ·rintro j c hj ⟨c1,c2⟩
    have c9:=A4 c1 c2
    have hm:=gZ (l:=s) (n:=(j:Int)) (by omega) hj
    by_cases k1:(gt s j).kind=3
    ·have k3:=X4 hs hm k1
     by_cases k2:(gt s j).cost<60000
     ·rw[if_pos ⟨k1,k2⟩]
      refine⟨⟨EU c1 _,λx hx=>by rcases iI.1 hx with rfl|hx;exact k3;exact c2 x hx⟩,λq=>?_⟩
      simp(disch:=omega) only[↓pq,↓pj,ps,pz,↓reduceIte,af,ah,ai,aj,ak,ap,aq,au,av,uG,tH,uH,uI,uJ,hj,k1,k2]
      refine(aoT c1 (by omega) _ _).trans ?_
      simp(disch:=omega) only[↓pq,↓pj,ps,pz,↓reduceIte,af,ah,ai,aj,ak,ap,aq,au,av,uG,tH,uH,uI,uJ,]
     ·rw[if_neg (λh=>k2 h.2)]
      refine⟨⟨c1,c2⟩,λq=>?_⟩
      simp(disch:=omega) only[↓pq,↓pj,ps,pz,↓reduceIte,af,ah,ai,aj,ak,ap,aq,au,av,uG,tH,uH,uI,uJ,hj,k1,k2]
    ·rw[if_neg (λh=>k1 h.1)]
     refine⟨⟨c1,c2⟩,λq=>?_⟩
     simp(disch:=omega) only[↓pq,↓pj,ps,pz,↓reduceIte,af,ah,ai,aj,ak,ap,aq,au,av,uG,tH,uH,uI,uJ,hj,k1]
   ·rintro K q ⟨c1,c2⟩
    have c9:=A4 c1 c2
    simp(disch:=omega) only[↓pq,↓pj,ps,pz,↓reduceIte,af,ah,ai,aj,ak,ap,aq,au,av,uG,tH,uH,uI,uJ,]
    refine(g_ K (λj D=>[.l (D.map j_),ii j]) (λD k=>D++(A2 s (within s A fr++beyond s A z fr) k fr).toList) (λD=>some [T.l (D.map j_)]) C (λj D=>D.length<=12+j) rfl (dh (by omega)) (by omega) ?_ ?_).trans (by rw[ON,D4])
    ·intro j D hj hD
     have hT:=aoR s (within s A fr++beyond s A z fr) (gt K j) fr h hs (mV.app (by omega) (by omega) aoZ ao0)
     cases hr:A2 s (within s A fr++beyond s A z fr) (gt K j) fr with
     |none=>
      rw[hr]at hT
      simp only[]at hT
      refine⟨by simp;omega,λq=>?_⟩
      simp(disch:=omega) only[↓pq,↓pj,ps,pz,↓reduceIte,af,ah,ai,aj,ak,ap,aq,au,av,uG,tH,uH,uI,uJ,hj,hT,cI,Option.toList_none,List.append_nil]
     |some r=>
      rw[hr]at hT
      simp only[j_,List.cons_append,List.nil_append]at hT
      refine⟨by simp;omega,λq=>?_⟩
      simp(disch:=omega) only[↓pq,↓pj,ps,pz,↓reduceIte,af,ah,ai,aj,ak,ap,aq,au,av,uG,tH,uH,uI,uJ,hj,hT,Option.toList_some]
    ·intro D q hD
     simp(disch:=omega) only[↓pq,↓pj,ps,pz,↓reduceIte,af,ah,ai,aj,ak,ap,aq,au,av,uG,tH,uH,uI,uJ,]
theorem X5{x:Net}(h:pC x=true):dK (lH x.n) iH x.aA=true∧x.aA.length<=12:=by
 unfold pC at h
 simp only[bI,decide_eq_true_eq]at h
 exact⟨h.1.2,h.1.1.1.2⟩
theorem yw{n:Int}{ls:List bC}(h:dK (lH n) iH ls=true){l:bC}(hl:l∈ls):(1<=n∧n<=6)∧(1<=l.a∧l.a<=n)∧(1<=l.b∧l.b<=n)∧l.a<l.b∧(1<=l.cost∧l.cost<=1000)∧0<=l.ae∧l.ae<=2:=by
 obtain⟨i,hi,rfl⟩:=List.mem_iff_getElem.1 hl
 have:=ca.1 h i hi
 rw[ed hi]at this
 simp only[bI,lH,aZ,decide_eq_true_eq]at this
 omega
def three:List Int:=[0,1,2]
theorem nj{x:Int}:x∈three↔0<=x∧x<=2:=by simp[three];omega
theorem qw:three.Pairwise (· < ·):=by unfold three;simp
def sX(node a:Int)(l:bC):Bool:=l.ae==a&&(l.a==node||l.b==node)
def jF(ls:List bC)(node:Int):List Int:=three.filter λa=>ls.any (sX node a)
theorem E3(ls:List bC)(node:Int):(jF ls node).length<=3:=List.length_filter_le _ _
theorem ao5(node:Int)(ls:List bC)(c:List Int)(hc:c.Pairwise (· < ·)):let K:=ls.foldl (λc x=>if x.a=node∨x.b=node then fR c x.ae else c) c;K.Pairwise (· < ·)∧∀k,k∈K↔k∈c∨∃x∈ls,(x.a=node∨x.b=node)∧x.ae=k:=by
 induction ls generalizing c with
 |nil=>exact⟨hc,by simp⟩
 |cons x s ih=>
  rw[List.foldl_cons]
  by_cases h:x.a=node∨x.b=node
  ·rw[if_pos h]
   obtain⟨h1,h2⟩:=ih _ (EU hc x.ae)
   refine⟨h1,λk=>?_⟩
   rw[h2,iI]
   simp only[List.mem_cons]
   constructor
   ·rintro((e|e)|⟨y,hy,e⟩)
    ·exact .inr ⟨x,.inl rfl,h,e.symm⟩
    ·exact .inl e
    ·exact .inr ⟨y,.inr hy,e⟩
   ·rintro(e|⟨y,rfl|hy,e⟩)
    ·exact .inl (.inr e)
    ·exact .inl (.inl e.2.symm)
    ·exact .inr ⟨y,hy,e⟩
  ·rw[if_neg h]
   obtain⟨h1,h2⟩:=ih _ hc
   refine⟨h1,λk=>?_⟩
   rw[h2]
   simp only[List.mem_cons]
   constructor
   ·rintro(e|⟨y,hy,e⟩)
    ·exact .inl e
    ·exact .inr ⟨y,.inr hy,e⟩
   ·rintro(e|⟨y,rfl|hy,e⟩)
    ·exact .inl e
    ·exact absurd e.1 h
    ·exact .inr ⟨y,hy,e⟩
theorem ao6{n:Int}{ls:List bC}(h:dK (lH n) iH ls=true)(node:Int):ls.foldl (λc x=>if x.a=node∨x.b=node then fR c x.ae else c) []=jF ls node:=by
 obtain⟨h1,h2⟩:=ao5 node ls [] .nil
 refine HR h1 (qw.filter _) λk=>?_
 unfold jF
 rw[h2,List.mem_filter,nj,List.any_eq_true]
 constructor
 ·rintro(e|⟨x,hx,e,rfl⟩)
  ·cases e
  ·have:=yw h hx
   refine⟨by omega,x,hx,?_⟩
   unfold sX
   rcases e with e|e<;>simp[e]
 ·rintro⟨_,x,hx,e⟩
  unfold sX at e
  simp only[bI,Bool.or_eq_true,beq_iff_eq]at e
  exact .inr ⟨x,hx,e.2,e.1⟩
theorem X6(t0 t2:T)(ls:List bC)(node n:Int)(h:dK (lH n) iH ls=true)(hl:ls.length<=12):yd [t0,.l (ls.map dm),t2,ii node]=some [.l ((jF ls node).map aD)]:=by
 rw[amC];simp(disch:=omega) only[↓pq,↓pj,ps,pz,↓reduceIte,af,ah,ai,aj,ak,ap,aq,au,av,wi,wj,w8,NE]
 refine(g_ ls (λj c=>[.l (c.map aD),ii j]) (λc x=>if x.a=node∨x.b=node then fR c x.ae else c) (λc=>some [T.l (c.map aD)]) [] (λj c=>c.Pairwise (· < ·)∧∀x∈c,0<=x∧x<=2) rfl (dh (by omega)) ⟨.nil,by simp⟩ ?_ ?_).trans (by rw[ao6 h])
 ·rintro j c hj ⟨c1,c2⟩
  have hm:=yw h (gZ (l:=ls) (n:=(j:Int)) (by omega) hj)
  have hc3:c.length<=3:=by
   have e:c=three.filter λx=>c.contains x:=HR c1 (qw.filter _) λx=>by
    rw[List.mem_filter,nj,List.contains_iff_mem]
    exact⟨λhx=>⟨c2 x hx,hx⟩,λhx=>hx.2⟩
   rw[e];exact List.length_filter_le _ _
  by_cases k1:(gt ls j).a=node
  ·rw[if_pos (.inl k1)]
   refine⟨⟨EU c1 _,λx hx=>by rcases iI.1 hx with rfl|hx;omega;exact c2 x hx⟩,λq=>?_⟩
   simp(disch:=omega) only[↓pq,↓pj,ps,pz,↓reduceIte,af,ah,ai,aj,ak,ap,aq,au,av,wi,wj,w8,hj,k1]
   refine(aoV c1 (by omega) _ _).trans ?_
   simp(disch:=omega) only[↓pq,↓pj,ps,pz,↓reduceIte,af,ah,ai,aj,ak,ap,aq,au,av,wi,wj,w8,]
  ·by_cases k2:(gt ls j).b=node
   ·rw[if_pos (.inr k2)]
    refine⟨⟨EU c1 _,λx hx=>by rcases iI.1 hx with rfl|hx;omega;exact c2 x hx⟩,λq=>?_⟩
    simp(disch:=omega) only[↓pq,↓pj,ps,pz,↓reduceIte,af,ah,ai,aj,ak,ap,aq,au,av,wi,wj,w8,hj,k1,k2]
    refine(aoU c1 (by omega) _ _).trans ?_
    simp(disch:=omega) only[↓pq,↓pj,ps,pz,↓reduceIte,af,ah,ai,aj,ak,ap,aq,au,av,wi,wj,w8,]
   ·rw[if_neg (by omega)]
    refine⟨⟨c1,c2⟩,λq=>?_⟩
    simp(disch:=omega) only[↓pq,↓pj,ps,pz,↓reduceIte,af,ah,ai,aj,ak,ap,aq,au,av,wi,wj,w8,hj,k1,k2]
 ·rintro c q hc
  simp(disch:=omega) only[↓pq,↓pj,ps,pz,↓reduceIte,af,ah,ai,aj,ak,ap,aq,au,av,wi,wj,w8,]
def A6(ls:List bC)(node a:Int):List Int:=xd.filter λv=>decide (lT ls node v a>0)
theorem X7(t0 t2:T)(ls:List bC)(node a:Int)(hl:ls.length<=12):QF [t0,.l (ls.map dm),t2,ii node,ii a]=some [.l ((A6 ls node a).map aD)]:=by
 rw[akb];simp(disch:=omega) only[↓pq,↓pj,ps,pz,↓reduceIte,af,ah,ai,aj,ak,ap,aq,au,av,WO,My]
 refine(rZ 6 (λi c=>[.l (c.map aD),ii (i+1)]) (λc i=>if decide (lT ls node ((i:Int)+1) a>0)=true then c++[(i:Int)+1]else c) (λc=>some [T.l (c.map aD)]) [] (λi c=>c.length<=i) rfl (dh (by omega)) (by simp) ?_ ?_).trans ?_
 ·intro i c hi hc
  have aO:(i:Int)+1<=6:=by omega
  refine⟨by split;(· simp;omega);(· omega),λq=>?_⟩
  by_cases k:lT ls node ((i:Int)+1) a>0
  ·simp(disch:=omega) only[↓pq,↓pj,ps,pz,↓reduceIte,af,ah,ai,aj,ak,ap,aq,au,av,WO,aO,N_ _ _ _ _ _ _ (show ls.length<=1048576 by omega),k,decide_true]
  ·simp(disch:=omega) only[↓pq,↓pj,ps,pz,↓reduceIte,af,ah,ai,aj,ak,ap,aq,au,av,WO,aO,N_ _ _ _ _ _ _ (show ls.length<=1048576 by omega),k,decide_false,cI]
 ·intro c q hc
  simp(disch:=omega) only[↓pq,↓pj,ps,pz,↓reduceIte,af,ah,ai,aj,ak,ap,aq,au,av,WO,]
 ·unfold A6
  rw[GC (λi:Nat=>decide (lT ls node ((i:Int)+1) a>0)) (λi:Nat=>(i:Int)+1),DY,List.filter_map]
  rfl
theorem ao7{n:Int}{ls:List bC}(h:dK (lH n) iH ls=true)(node a:Int):(A6 ls node a).length>0↔ls.any (sX node a)=true:=by
 unfold A6
 rw[show((xd.filter λv=>decide (lT ls node v a>0)).length>0)↔∃v∈xd,lT ls node v a>0 by
  rw[gt_iff_lt,List.length_pos_iff_exists_mem]
  constructor
  ·rintro⟨v,hv⟩
   have:=List.mem_filter.1 hv
   exact⟨v,this.1,by simpa using this.2⟩
  ·rintro⟨v,hv,e⟩
   exact⟨v,List.mem_filter.2 ⟨hv,by simpa using e⟩⟩,List.any_eq_true]
 have key:∀v,lT ls node v a>0↔∃x∈ls,eh node v a x=true:=by
  intro v
  have hz:=Xf h node v a
  constructor
  ·intro hc
   have h0:0<=dz (eh node v a) ls:=by
    rcases Int.lt_or_le (dz (eh node v a) ls) 0 with h1|h1
    ·have:=hz.2 h1;omega
    ·exact h1
   exact⟨_,gZ h0 (rz _ _),tE _ _ h0⟩
  ·rintro⟨x,hx,e⟩
   have h0:¬dz (eh node v a) ls<0:=λhc=>by
    have:=(EN _ _).1 hc x hx
    rw[e]at this;cases this
   have h1:=yw h (gZ (l:=ls) (n:=dz (eh node v a) ls) (by omega) (rz _ _))
   unfold lT
   rw[if_neg h0]
   omega
 constructor
 ·rintro⟨v,hv,hc⟩
  obtain⟨x,hx,e⟩:=(key v).1 hc
  refine⟨x,hx,?_⟩
  unfold eh at e
  unfold sX
  simp only[bI,Bool.or_eq_true,beq_iff_eq]at e⊢
  rcases e with⟨e1,e2|e2⟩
  ·exact⟨e1,.inl e2.1⟩
  ·exact⟨e1,.inr e2.2⟩
 ·rintro⟨x,hx,e⟩
  have hl:=yw h hx
  unfold sX at e
  simp only[bI,Bool.or_eq_true,beq_iff_eq]at e
  rcases e with⟨e1,e2|e2⟩
  ·exact⟨x.b,iy.2 (by omega),(key _).2 ⟨x,hx,by unfold eh;simp[e1,e2]⟩⟩
  ·exact⟨x.a,iy.2 (by omega),(key _).2 ⟨x,hx,by unfold eh;simp[e1,e2]⟩⟩
theorem Il(t0 t2:T)(ls:List bC)(node n:Int)(h:dK (lH n) iH ls=true)(hl:ls.length<=12):BD [t0,.l (ls.map dm),t2,ii node]=some [.l ((jF ls node).map aD)]:=by
 rw[akd];simp(disch:=omega) only[↓pq,↓pj,ps,pz,↓reduceIte,af,ah,ai,aj,ak,ap,aq,au,av,WQ,Mz]
 refine(rZ 3 (λi c=>[.l (c.map aD),ii i]) (λc i=>if ls.any (sX node (i:Int))=true then c++[(i:Int)]else c) (λc=>some [T.l (c.map aD)]) [] (λi c=>c.length<=i) rfl (dh (by omega)) (by simp) ?_ ?_).trans ?_
 ·intro i c hi hc
  have aO:(i:Int)<=2:=by omega
  refine⟨by split;(· simp;omega);(· omega),λq=>?_⟩
  have hn:=ao7 h node (i:Int)
  by_cases k:ls.any (sX node (i:Int))=true
  ·have h1:((A6 ls node (i:Int)).length:Int)>0:=by have:=hn.2 k;omega
   simp(disch:=omega) only[↓pq,↓pj,ps,pz,↓reduceIte,af,ah,ai,aj,ak,ap,aq,au,av,WQ,aO,X7 _ _ _ _ _ hl,k,h1]
  ·have h1:¬((A6 ls node (i:Int)).length:Int)>0:=by
    intro hc
    exact k (hn.1 (by omega))
   simp(disch:=omega) only[↓pq,↓pj,ps,pz,↓reduceIte,af,ah,ai,aj,ak,ap,aq,au,av,WQ,aO,X7 _ _ _ _ _ hl,k,h1,cI]
 ·intro c q hc
  simp(disch:=omega) only[↓pq,↓pj,ps,pz,↓reduceIte,af,ah,ai,aj,ak,ap,aq,au,av,WQ,]
 ·unfold jF
  rw[GC (λi:Nat=>ls.any (sX node (i:Int))) (λi:Nat=>(i:Int)),show three=(List.range 3).map (λi:Nat=>(i:Int)) from rfl,List.filter_map]
  rfl
def yx(ls:List bC)(node:Int):Bool:=(jF ls node).contains 0&&decide ((jF ls node).length>1)
theorem O1(t0 t2:T)(ls:List bC)(node n:Int)(h:dK (lH n) iH ls=true)(hl:ls.length<=12):G4 [t0,.l (ls.map dm),t2,ii node]=some [bb (yx ls node)]:=by
 have D_:=E3 ls node
 rw[amO];simp(disch:=omega) only[↓pq,↓pj,ps,pz,↓reduceIte,af,ah,ai,aj,ak,ap,aq,au,av,NN,X6 _ _ _ _ _ h hl,zu _ _ (show(jF ls node).length<=1048576 by omega)]
 unfold yx
 cases(jF ls node).contains 0 with
 |true=>simp(disch:=omega) only[↓pq,↓pj,ps,pz,↓reduceIte,af,ah,ai,aj,ak,ap,aq,au,av,];simp;omega
 |false=>simp(disch:=omega) only[↓pq,↓pj,ps,pz,↓reduceIte,af,ah,ai,aj,ak,ap,aq,au,av,cI];simp
theorem Im(t0 t2:T)(ls:List bC)(node n:Int)(h:dK (lH n) iH ls=true)(hl:ls.length<=12):GJ [t0,.l (ls.map dm),t2,ii node]=some [bb (yx ls node)]:=by
 have D_:=E3 ls node
 rw[akl];simp(disch:=omega) only[↓pq,↓pj,ps,pz,↓reduceIte,af,ah,ai,aj,ak,ap,aq,au,av,ME,Il _ _ _ _ _ h hl]
 unfold yx
 by_cases k:((jF ls node).length:Int)>1
 ·have k':(jF ls node).length>1:=by omega
  have h0:∀(p:Int->Bool),(three.filter p).length>1->(three.filter p).contains 0=decide (gt (three.filter p) 0=0):=by
   intro p hp
   unfold three at hp⊢
   simp only[List.filter_cons,List.filter_nil]at hp⊢
   revert hp
   cases p 0<;>cases p 1<;>cases p 2<;>first|(intro _;rfl)|(intro h;exact absurd h (by decide))
  rw[show(jF ls node).contains 0=decide (gt (jF ls node) 0=0) from h0 _ k']
  simp(disch:=omega) only[↓pq,↓pj,ps,pz,↓reduceIte,af,ah,ai,aj,ak,ap,aq,au,av,k,k',decide_true,Bool.and_true]
  rfl
 ·have k':¬(jF ls node).length>1:=by omega
  simp(disch:=omega) only[↓pq,↓pj,ps,pz,↓reduceIte,af,ah,ai,aj,ak,ap,aq,au,av,k,k',decide_false,Bool.and_false]
theorem ao8(s:List ay)(A:List Int)(z:Bool)(fr:Int):(A5 s A z fr).length<=21:=by
 unfold A5
 have h1:=List.length_filter_le (λw:Way=>!(w.to==fr)) (within s A fr)
 have h2:=OT (s:=s) (A:=A) (fr:=fr)
 have h3:=D9 (s:=s) (A:=A) (z:=z) (fr:=fr)
 have h4:=List.length_filterMap_le (λk=>A2 s (within s A fr++beyond s A z fr) k fr) (upto 9)
 have h5:(upto 9).length=9:=rfl
 simp only[List.length_append,List.length_map]
 omega
def O2(x:Node):List ef:=if rh x=true then A5 x.self.store (jF x.self.net.aA x.self.id) (yx x.self.net.aA x.self.id) x.self.id else []
theorem ao9{x:Node}(h:rh x=true):pC x.self.net=true∧eA x.self.store=true:=by
 unfold rh jY at h
 simp only[bI]at h
 exact⟨h.1.1,h.1.2.2.2.2⟩
theorem ao_(id aV n:Int)(ls:List bC)(ts:List bP)(hd:List Int)(st:List ay)(es:List eE)(h1:ls.length<=1048576)(h2:ts.length<=1048576)(h3:hd.length<=1048576)(h4:st.length<=1048576)(h5:bh st)(h6:es.length<=1048576):
  LX [ii id,ii aV,ii n,.l (ls.map dm),.l (ts.map dM),.l (hd.map aD),.l (st.map aC),.l (es.map bR)]=some [.l ((O2 ⟨⟨id,aV,⟨n,ls,ts⟩,hd,st⟩,es⟩).map j_)]:=by
 rw[anD];simp(disch:=omega) only[↓pq,↓pj,ps,pz,↓reduceIte,af,ah,ai,aj,ak,ap,aq,au,av,N6,HL _ _ _ _ _ _ _ _ h1 h2 h3 h4 h5 h6]
 unfold O2
 cases hk:rh ⟨⟨id,aV,⟨n,ls,ts⟩,hd,st⟩,es⟩with
 |false=>simp(disch:=omega) only[↓pq,↓pj,ps,pz,↓reduceIte,af,ah,ai,aj,ak,ap,aq,au,av,cI];rfl
 |true=>
  obtain⟨hn,hs⟩:=ao9 hk
  obtain⟨hl,tc⟩:=X5 hn
  have D_:=E3 ls id
  simp(disch:=omega) only[↓pq,↓pj,ps,pz,↓reduceIte,af,ah,ai,aj,ak,ap,aq,au,av,X6 _ _ _ _ _ hl tc,O1 _ _ _ _ _ hl tc,ao4 st (jF ls id) (yx ls id) id h4 h5 hs (by omega)]
end Go.Proofs.YtjimmglpkndemaaGreatC
