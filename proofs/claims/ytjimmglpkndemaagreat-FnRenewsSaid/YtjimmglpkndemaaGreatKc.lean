/- The walk by reflection: a part of its laws, for any function. Conditions: none. -/
import Derived.Test.YtjimmglpkndemaaGreatKb
import Derived.LoopN
namespace Go.Proofs.YtjimmglpkndemaaGreatC
set_option linter.unusedVariables false
section
variable {M:Nat→Prop} {B:Base} {d:Nat} {up:Nat→Nat→Value} {ρ:List T} {G:Gh} {a:Act} {w:World} {S:Nat→Sem1} {P:Program}
variable {cx:Cx} {fid rid oi:Nat} {s:St} {R:List Res} {ct:Ct} {k':Wk} {o:Oper} {Q:Exit→Act→World→Prop}
theorem ape_ {k kw:Wk} {G1 G2:Gh} {j:Nat} {W1:St} {V:SV} {val:Value} (h:Rel M B d up s ρ G a w) (hk:WOk M B d up ρ G a w k G1) (hn:∀ n,o.dst=some n→n < a.tmps.size) (hM:¬ M j)
  (K:Keep (xz_ W1) (fun i=>i=j) G1 w G2 w) (hkw:∀ r,kw.w.look r=(W1.look r).or (k.w.look r))
  (hW1:∀ r u,W1.look r=some u→∃ i,r=.o i∧RelObj G2 w ρ i u∧(M i∨i=j)∧∀ x∈zf_ u,M x∨x=j)
  (hV:RelSV G2 w ρ V val) (hid:∀ i∈zf_ V,M i∨i=j) (hlab:∀ b l,G2.ω b=some l→(M l.id∨l.id=j)∧b < w.heap.size)
  (hx:(execOp a.eval o).run P w=.ok (.value val) w):Goal P (Mn M j (j+1)) B d up ρ a w s o (putW d o kw V).w Q:=by
 have mn:∀ {i:Nat},(M i∨i=j)→Mn M j (j+1) i:=fun h=>h.imp_right fun e=>by subst e;exact ⟨Nat.le_refl _,Nat.lt_succ_self _⟩
 have K2:Keep (xz_ (dstW d o V++W1)) (fun i=>i=j) G1 w G2 w:=K.mono (fun l hl=>by
  cases l with
  | f=>exact hl
  | x b =>
   exfalso
   obtain ⟨u,hu⟩:=Option.ne_none_iff_exists'.1 hl
   obtain ⟨i,e1,_⟩:=hW1 _ _ hu
   cases e1
  | o i p =>
   show St.look _ (Res.o i)≠none
   rw [zC_]
   exact fun e=>hl (Option.or_eq_none_iff.1 e).2) fun _ hi=>hi
 simp only [Goal,Oper.wp,hx,Oper.upon]
 refine ⟨G2,jA_ h hk (W2:=dstW d o V++W1) (aex_ (W2:=W1) hkw) K2 (fun i hi=>by subst hi;exact hM) (fun i hi=>.inl hi) (fun n hdn=>jr_ hdn) ⟨rfl,rfl,rfl⟩ ?_,vI_ _ _ _⟩
 refine ⟨fun e n u he hl=>?_,fun b u hl=>?_,fun i u hl=>?_,fun r u hl i hi=>?_,fun i hi=>?_,fun b l hb=>⟨mn (hlab b l hb).1,(hlab b l hb).2⟩⟩
 ·rcases zV_ hl with ⟨n',hn',e1,rfl⟩ | hl
  ·cases e1
   rw [hn',qy_ (hn _ hn')]
   exact hV
  ·obtain ⟨i,e1,_⟩:=hW1 _ _ hl;cases e1
 ·rcases zV_ hl with ⟨n',hn',e1,rfl⟩ | hl
  ·cases e1
  ·obtain ⟨i,e1,_⟩:=hW1 _ _ hl;cases e1
 ·rcases zV_ hl with ⟨n',hn',e1,rfl⟩ | hl
  ·cases e1
  ·obtain ⟨i',e1,e2,_⟩:=hW1 _ _ hl;cases e1;exact e2
 ·rcases zV_ hl with ⟨n',hn',e1,rfl⟩ | hl
  ·exact mn (hid i hi)
  ·obtain ⟨i',e1,_,_,e4⟩:=hW1 _ _ hl;exact mn (e4 i hi)
 ·have:∀ r:Res,(r=.x i∨r=.o i)→St.look (dstW d o V++W1) r≠none→Mn M j (j+1) i:=by
   intro r hr hl
   obtain ⟨u,hu⟩:=Option.ne_none_iff_exists'.1 hl
   rcases zV_ hu with ⟨n',hn',e1,rfl⟩ | hl
   ·rcases hr with rfl | rfl <;> cases e1
   ·obtain ⟨i',e1,_,e3,_⟩:=hW1 _ _ hl
    rcases hr with rfl | rfl
    ·cases e1
    ·cases e1;exact mn e3
  rcases hi with hi | hi
  ·exact this _ (.inl rfl) hi
  ·exact this _ (.inr rfl) hi
def Gh.al (G:Gh) (j:Nat) (v:Value) (hv:∃ a n c,v=.slice a n c):Gh where
 ω:=G.ω
 β:=G.β
 H:=fun i=>if i=j then fun _=>v else G.H i
 hs:=fun i p=>by
  by_cases h:i=j
  ·simp only [h,if_true];exact hv
  ·simp only [h,if_false];exact G.hs i p
theorem aMf_ {j:Nat} {v:Value} {hv:∃ a n c,v=.slice a n c} {I:Lb→Prop}:Keep I (fun i=>i=j) G w (G.al j v hv) w :=
 ⟨Nat.le_refl _,fun b _ hb=>⟨hb,rfl⟩,fun b _ hb=>hb,fun b l hl _=>⟨hl,rfl⟩,fun i hi=>⟨rfl,fun p _=>by simp [Gh.al,hi]⟩⟩
theorem aMy_ {ω:Nat→Option Lb} {H:List (Nat × Nat)→Value} {n l h sz:Nat} {ao:Option Addr} {len cap:Nat} {xs:List (List T)} (hd:Den ω w (.l xs) (.slice ao len cap)) (hh:HdrAt w H n (.slice ao len cap) xs) (hlh:l≤h) (hx:h≤xs.length) (hcap:xs.length≤cap) (hok:okW sz xs=true) :
  HdrAt w H (n+l) (sliced ao l h cap sz) ((xs.take h).drop l):=by
 intro b off k c hv
 unfold sliced at hv
 by_cases he:l=h
 ·refine ⟨0,fun r hr=>?_,fun i j ys hat=>?_⟩
  ·subst he;simp at hr
  ·subst he;simp [at2] at hat
 ·have hne:¬ (cap=l):=by omega
  rw [if_neg hne] at hv
  cases hd with
  | nil=>simp at hx;omega
  | @l _ b0 off0 wd0 _ cv0 g1 g2 g3 g4 g5 g6 =>
   simp only [Option.map_some,Addr.add_lit] at hv
   cases hv
   obtain ⟨wd,h1,h2⟩:=hh b off0 _ _ rfl
   have hwd:wd=sz:=by
    cases xs with
    | nil=>simp at hx;omega
    | cons r xs=>rw [← h1 r (by simp)];exact nB_ hok
   subst hwd
   refine ⟨wd,fun r hr=>h1 r (List.mem_of_mem_take (List.mem_of_mem_drop hr)),fun i j ys hat=>?_⟩
   have:=h2 _ _ _ (apq_ hat)
   rw [Nat.add_mul] at this
   rw [show off0+l * wd+(i * wd+j)=off0+(l * wd+i * wd+j) by omega,this,Nat.add_assoc]
theorem aIp_ {k k1:Wk} {G1:Gh} (hk:WOk M B d up ρ G a w k G1) {x:Operand} {ls:List Lf} {f:Operand→SV} (hf:RelSV G1 w ρ (f x) (a.eval x))
  (h:bnd1 k f (some x)=some (k1,ls)) (hd:k1.Done S ρ):∃ y t,ls=[y]∧y.evo ρ=some t∧Den (er G1.ω) w t (a.eval x):=by
 simp only [bnd1,oB_,oI_,Prod.mk.injEq] at h
 obtain ⟨⟨k2,y⟩,h1,rfl,rfl⟩:=h
 obtain ⟨_,_,t,e3,e4⟩:=Wk.one_done hk h1 hd hf
 exact ⟨y,t,rfl,e3,e4⟩
theorem aGg_ (tys:TyAll P cx) (h:Rel M B d up s ρ G a w) (hn:∀ n,o.dst=some n→n < a.tmps.size) {t:Nat} {x:Operand} {lo hi mx:Option Operand} (ho:o.op=.slice t x lo hi mx)
  {kv:Wk × SV} (hyes:(bif mx.isSome then none else aji_ cx ⟨s.only R,[],ct,[]⟩ t (opnd d (Wk.get ⟨s.only R,[],ct,[]⟩) x) (lo.map (opnd d (Wk.get ⟨s.only R,[],ct,[]⟩))) (hi.map (opnd d (Wk.get ⟨s.only R,[],ct,[]⟩))))=some kv)
  (hk:putW d o kv.1 kv.2=k') (hd:k'.Done S ρ) (hM:∀ i,ct.i≤i→i < k'.ct.i→¬ M i):Goal P (Mn M ct.i k'.ct.i) B d up ρ a w s o k'.w Q:=by
 have hw:=WOk.start h R ct
 cases mx with
 | some m=>simp at hyes
 | none =>
  simp only [Option.isSome_none,cond_false] at hyes
  have hox:=(hw.opn x).1
  have hmx:=(hw.opn x).2
  unfold aji_ at hyes
  split at hyes
  ·rename_i id hop
   rw [hop] at hox hmx
   split at hyes
   ·rename_i tk x0 l0 y hid
    simp only [oB_] at hyes
    obtain ⟨ti,hti,te,hte,hyes⟩:=hyes
    cases hc:(Nat.beq ti.kd 3 && isZ l0) with
    | false=>simp [hc] at hyes
    | true =>
     simp only [hc,cond_true,oB_,oI_] at hyes
     simp only [bA_] at hc
     obtain ⟨⟨k3,ls⟩,h1,⟨k4,hs⟩,h2,hkv⟩:=hyes
     have hlo:bnd1 ⟨s.only R,[],ct,[]⟩ (opnd d (Wk.get ⟨s.only R,[],ct,[]⟩)) lo=some (k3,ls):=by
      cases lo with
      | none=>exact h1
      | some l=>exact h1
     have hhi:bnd1 k3 (opnd d (Wk.get ⟨s.only R,[],ct,[]⟩)) hi=some (k4,hs):=by
      cases hi with
      | none=>exact h2
      | some l=>exact h2
     subst hkv
     have hk2:putW d o { ((k4.em (.sub te.sz lo.isSome hi.isSome) (y :: (ls++hs))).1.set (.o (evN k4.ct.i)) (.fz (.w tk x0 (ls.headD (.k (.int .i64 0)))) (k4.em (.sub te.sz lo.isSome hi.isSome) (y :: (ls++hs))).2)) with
       ct:=⟨(k4.em (.sub te.sz lo.isSome hi.isSome) (y :: (ls++hs))).1.ct.a,evN k4.ct.i+1⟩ } (.v false [.o (evN k4.ct.i) []])=k':=by
      rw [← hk]
      cases lo <;> cases hi <;> rfl
     have hd1:(k4.em (.sub te.sz lo.isSome hi.isSome) (y :: (ls++hs))).1.Done S ρ:=by
      rw [← hk2] at hd
      have h2:=putW_done.1 hd
      exact h2
     obtain ⟨hd4,r,hr,hrv⟩:=Wk.em_done hd1
     have opn:∀ z,RelSV G w ρ (opnd d (Wk.get ⟨s.only R,[],ct,[]⟩) z) (a.eval z):=fun z=>(hw.opn z).1
     have bsame:∀ {ka kb:Wk} {b:Option Operand} {zs:List Lf},bnd1 ka (opnd d (Wk.get ⟨s.only R,[],ct,[]⟩)) b=some (kb,zs)→ka.Same kb:=by
      intro ka kb b zs hb
      unfold bnd1 at hb
      split at hb
      ·simp only [oI_,Prod.mk.injEq] at hb;obtain ⟨rfl,_⟩:=hb;exact .refl _
      ·simp only [oB_,oI_,Prod.mk.injEq] at hb
       obtain ⟨⟨k5,y5⟩,h5,rfl,_⟩:=hb
       unfold Wk.one at h5
       split at h5
       ·exact Wk.val_same h5
       ·cases h5
     have s3:=bsame hlo
     have s4:=bsame hhi
     obtain ⟨hd3,_,hb2⟩:=aaz_ (hw.same s3) (f:=opnd d (Wk.get ⟨s.only R,[],ct,[]⟩)) (fun z _=>opn z) hhi hd4
     obtain ⟨_,_,hb1⟩:=aaz_ hw (f:=opnd d (Wk.get ⟨s.only R,[],ct,[]⟩)) (fun z _=>opn z) hlo hd3
     have hob:=hw.obj id
     rw [hid] at hob
     obtain ⟨tz,hy,hden,htk,F,n0,zs,hF,hl0,rfl,hzs,hhdr,hoff⟩:=hob
     have hn0:n0=0:=amp_ hc.2 hl0
     subst hn0
     simp only [List.map_cons,Lf.evo_ev hy] at hr
     obtain ⟨xs,hxs,hok,hr⟩:=aIm_ hr
     cases hxs
     obtain ⟨l,hh,hF2,hl1,hl2⟩:=agg_ (F:=fun l h=>if 0≤l then (if l≤h then (if h≤zs.length then some (T.l ((zs.take h.toNat).drop l.toNat)) else none) else none) else none) hb1 hb2 hr
     split at hF2
     ·rename_i h0
      split at hF2
      ·rename_i hlh
       split at hF2
       ·rename_i hhx
        simp only [oI_] at hF2
        subst hF2
        obtain ⟨e,he,hce,_⟩:=hox
        cases he
        obtain ⟨p,hp,hval⟩:=hce
        simp only [z6_,oI_] at hp
        subst hp
        have hdx:=hden
        rw [← hval] at hdx
        obtain ⟨ao,cap,hv2,hcap⟩:=hdx.rows
        have hT:=tys.ty _ _ hti
        have hE:=tys.ty _ _ hte
        obtain ⟨i,zz,hi1,hi2,_⟩:=hE.info
        have hnil:zs.length≤cap:=by
         by_cases hz:zs=[]
         ·subst hz;simp
         ·exact hcap hz
        have hrun2:=afn_ (P:=P) (w:=w) (hT.sl (nB_ hc.1)) ⟨i,hi1,hi2⟩ (ao:=ao) hnil hl1 hl2 h0 hlh hhx
        rw [← hv2] at hrun2
        have hexec:(execOp a.eval o).run P w=.ok (.value (sliced ao l.toNat hh.toNat cap te.sz)) w :=
         q9_ (x:=Instr.sliceAt t (a.eval x) (lo.map a.eval) (hi.map a.eval) none) (by unfold execOp;rw [ho];rfl) hrun2
        have hsv:∃ a n c,sliced ao l.toNat hh.toNat cap te.sz=.slice a n c:=by unfold sliced;exact ⟨_,_,_,rfl⟩
        rw [hv2] at hdx
        have hsub:=hdx.sub (l:=l.toNat) (h:=hh.toNat) (sz:=te.sz) (by omega) (by omega) hok
        have hi0:k4.ct.i=ct.i:=by rw [s4.i,s3.i]
        have hct:k'.ct.i=evN ct.i+1:=by rw [← hk2,y6_,← hi0]
        have hev:=ajn_ ct.i
        rw [hct,← hk2,← hi0]
        refine Goal.mono (M:=Mn M (evN k4.ct.i) (evN k4.ct.i+1)) ?_ (fun i hi=>hi.imp_right fun hi=>by rw [hi0] at hi ⊢;exact ⟨by omega,hi.2⟩)
        have hMid:M id:=hmx id (by simp [zf_,zl_])
        have hMtk:M tk:=hw.rel.ment (.o id) tk (by rw [← Wk.get_sets,hid];simp [zf_])
        have hnm:¬ M (evN k4.ct.i):=hM _ (by rw [hi0];exact hev) (by rw [hct,hi0];omega)
        have hne:tk≠evN k4.ct.i:=fun e=>hnm (e ▸ hMtk)
        refine ape_ (j:=evN k4.ct.i) (G2:=G.al (evN k4.ct.i) (sliced ao l.toNat hh.toNat cap te.sz) hsv) (W1:=[(.o (evN k4.ct.i),.fz (.w tk x0 (ls.headD (.k (.int .i64 0)))) (k4.em (.sub te.sz lo.isSome hi.isSome) (y :: (ls++hs))).2)])
         h (hw.same (s3.trans (s4.trans (Wk.em_same k4 (.sub te.sz lo.isSome hi.isSome) (y :: (ls++hs)))))) hn hnm aMf_ (fun r=>by rw [x8_];exact ua_ (k:=(k4.em (.sub te.sz lo.isSome hi.isSome) (y :: (ls++hs))).1) r ▸ (by rw [x8_])) (fun r u hl=>?_) ?_ (fun i hi=>by simp [zf_,zl_] at hi;exact .inr hi) (fun b l hb=>⟨.inl (hw.rel.lab b l hb).1,(hw.rel.lab b l hb).2⟩) hexec
        ·rcases zv_ hl with ⟨e1,e2⟩ | hl
         ·subst e1 e2
          refine ⟨_,rfl,⟨_,hrv,?_,htk,F,l.toNat,_,hF,?_,rfl,fun i r hg=>?_,?_,fun hl0 b off k c hv=>?_⟩,.inr rfl,fun i hi=>by simp [zf_] at hi;subst hi;exact .inl hMtk⟩
          ·simpa [Gh.al,Gh.q] using hsub
          ·rcases hl1 with ⟨e1,rfl⟩ | ⟨kk,e1⟩
           ·rcases hb1 with ⟨rfl,rfl⟩ | ⟨z,yy,tt,rfl,_⟩
            ·simp [xg_,Lf.evo,scV]
            ·simp at e1
           ·cases lo with
            | none=>simp at e1
            | some z =>
             obtain ⟨yy,tt,e5,ht,hdt⟩:=aIp_ hw (opn z) hlo hd3
             subst e5
             simp only [Option.map_some,oI_] at e1
             rw [e1] at hdt
             have htt:tt=.c (.int kk l):=by
              generalize hq:Value.int kk l=q at hdt
              cases hdt with
              | c _=>rfl
              | nil=>cases hq
              | l=>cases hq
             rw [htt] at ht
             simp only [List.headD_cons]
             exact auo_ ht h0
          ·rw [List.getElem?_drop,List.getElem?_take] at hg
           split at hg
           ·have:=hzs _ _ hg
            rw [Nat.zero_add] at this
            exact this
           ·cases hg
          ·have h3:HdrAt w (G.H tk) 0 (.slice ao zs.length cap) zs:=by rw [← hv2,hval];exact hhdr
           have h4:=aMy_ hdx h3 (l:=l.toNat) (h:=hh.toNat) (sz:=te.sz) (by omega) (by omega) hnil hok
           rw [Nat.zero_add] at h4
           simpa [Gh.al,hne] using h4
          ·simp only [Gh.al,if_true] at hv
           have hl:l.toNat=0:=hl0
           unfold sliced at hv
           rw [hl] at hv
           split at hv
           ·cases hv
            exact hoff rfl b off _ _ (by rw [← hval];exact hv2)
           ·generalize hvv:Value.slice ao zs.length cap=vv at hdx
            cases hdx with
            | nil =>
             cases hvv
             rename_i aa _
             cases ao with
             | none=>simp at hv
             | some ad =>
              obtain ⟨b0,off0,r0⟩:=ad
              cases r0 with
              | none =>
               simp only [Option.map_some,Addr.add_lit,Nat.zero_mul,Nat.add_zero] at hv
               cases hv
               exact hoff rfl b off _ _ (by rw [← hval];exact hv2)
              | some sp=>simp [Addr.add] at hv
            | @l _ b0 off0 wd0 _ cv0 g1 g2 g3 g4 g5 g6 =>
             cases hvv
             simp only [Option.map_some,Addr.add_lit,Nat.zero_mul,Nat.add_zero] at hv
             cases hv
             exact hoff rfl b off _ _ (by rw [← hval];exact hv2)
         ·cases hl
        ·exact ⟨_,rfl,⟨[],rfl,by simp [Gh.al]⟩,fun z hz=>by unfold sliced at hz;cases hz⟩
       ·cases hF2
      ·cases hF2
     ·cases hF2
   ·cases hyes
  ·cases hyes
theorem Wk.rowT_same:∀ (zs:List Ce) (k:Wk) (y ix:Lf) (j wd off:Nat),k.Same (k.rowT y ix j wd off zs).1
 | [],k,_,_,_,_,_=>.refl k
 | z :: zs,k,y,ix,j,wd,off=>by
  unfold Wk.rowT
  cases isN z with
  | true=>exact (Wk.em_same k _ _).trans (Wk.rowT_same zs _ y ix j wd (off+1))
  | false=>exact (Wk.em_same k _ _).trans (Wk.rowT_same zs _ y ix j wd (off+1))
theorem Wk.rowT_pre:∀ (zs:List Ce) (k:Wk) (y ix:Lf) (j wd off:Nat),(k.rowT y ix j wd off zs).1.Done S ρ→k.Done S ρ
 | [],_,_,_,_,_,_,h=>h
 | z :: zs,k,y,ix,j,wd,off,h=>by
  unfold Wk.rowT at h
  cases hz:isN z with
  | true=>rw [hz] at h;exact (Wk.em_done (Wk.rowT_pre zs _ y ix j wd (off+1) h)).1
  | false=>rw [hz] at h;exact (Wk.em_done (Wk.rowT_pre zs _ y ix j wd (off+1) h)).1
theorem Wk.rowT_rel {y ix:Lf} {xs:List (List T)} {i wd j b base:Nat} {Hd:Nat→Value} (hx:y.evo ρ=some (.l xs)) (hi:xg_ ρ ix=some i)
  (hrow:∀ r,xs[i]?=some r→r.length=wd→∀ c t,r[c]?=some t→∃ u,w.cell? ⟨b,base+c,none⟩=some u∧(∀ v,t=.c v→u=v∧scV v=true)∧∀ ys,t=.l ys→u=Hd c) :
  ∀ (zs:List Ce) (k:Wk) (off:Nat),(k.rowT y ix j wd off zs).1.Done S ρ →
   ∃ vs:List Value,vs.length=zs.length∧(∀ c v,vs[c]?=some v→w.cell? ⟨b,base+off+c,none⟩=some v)∧(∀ i∈zl_ (k.rowT y ix j wd off zs).2.1,i=j) ∧
    ((zs.filter isN).length=0→∀ G1:Gh,RelCs G1 w ρ (k.rowT y ix j wd off zs).2.1 vs) ∧
    ((zs.filter isN).length=1→∃ r c0 ys,xs[i]?=some r∧r.length=wd∧r[c0]?=some (.l ys)∧(k.rowT y ix j wd off zs).2.2.evo ρ=some (.l ys)∧∀ G1:Gh,G1.H j []=Hd c0→RelCs G1 w ρ (k.rowT y ix j wd off zs).2.1 vs)
 | [],k,off,_=>⟨[],rfl,fun c v hc=>by simp at hc,fun i hi=>by simp [Wk.rowT,zl_] at hi,fun _ _=>trivial,fun h=>by simp at h⟩
 | z :: zs,k,off,hd=>by
  unfold Wk.rowT at hd ⊢
  cases hz:isN z with
  | true =>
   rw [hz] at hd
   simp only [cond_true] at hd ⊢
   obtain ⟨_,t,ht,hyv⟩:=Wk.em_done (Wk.rowT_pre zs _ _ _ _ _ (off+1) hd)
   obtain ⟨ys,rfl,hat,r,h1,h2⟩:=anj_ hx hi ht
   have h3:r[off]?=some (.l ys):=by simpa [at2,h1] using hat
   obtain ⟨u,h5,_,h6⟩:=hrow r h1 h2 off _ h3
   obtain ⟨vs,g1,g2,g3,g4,g5⟩:=Wk.rowT_rel hx hi hrow zs _ (off+1) hd
   refine ⟨u :: vs,by simp [g1],fun c v hc=>?_,fun i hi=>?_,fun h0=>by simp [hz] at h0,fun h1'=>⟨r,off,ys,h1,h2,h3,hyv,fun G1 hG=>⟨⟨[],rfl,by rw [h6 ys rfl,hG]⟩,g4 (by simpa [hz] using h1') G1⟩⟩⟩
   ·cases c with
    | zero=>simp at hc;subst hc;simpa using h5
    | succ c =>
     have:=g2 c v (by simpa using hc)
     rwa [show base+(off+1)+c=base+off+(c+1) by omega] at this
   ·simp only [zl_,List.mem_cons] at hi
    rcases hi with hi | hi
    ·exact hi
    ·exact g3 i hi
  | false =>
   rw [hz] at hd
   simp only [cond_false] at hd ⊢
   obtain ⟨_,t,ht,hyv⟩:=Wk.em_done (Wk.rowT_pre zs _ _ _ _ _ (off+1) hd)
   obtain ⟨r,h1,h2,h3,h4⟩:=ap3_ (sc:=true) hx hi ht
   obtain ⟨c,rfl⟩:=aez_ (h4 rfl)
   obtain ⟨u,h5,h6,_⟩:=hrow r h1 h2 off _ h3
   obtain ⟨rfl,hs⟩:=h6 c rfl
   obtain ⟨vs,g1,g2,g3,g4,g5⟩:=Wk.rowT_rel hx hi hrow zs _ (off+1) hd
   refine ⟨u :: vs,by simp [g1],fun c v hc=>?_,fun i hi=>g3 i (by simpa [zl_] using hi),fun h0 G1=>⟨⟨.c u,hyv,.c hs⟩,g4 (by simpa [hz] using h0) G1⟩,fun h1'=>?_⟩
   ·cases c with
    | zero=>simp at hc;subst hc;simpa using h5
    | succ c =>
     have:=g2 c v (by simpa using hc)
     rwa [show base+(off+1)+c=base+off+(c+1) by omega] at this
   ·obtain ⟨r',c0,ys,e1,e2,e3,e4,e5⟩:=g5 (by simpa [hz] using h1')
    exact ⟨r',c0,ys,e1,e2,e3,e4,fun G1 hG=>⟨⟨.c u,hyv,.c hs⟩,e5 G1 hG⟩⟩
theorem aOw_ {m i r:T} (h:Prim.ev .tk1 [m,i]=some r):∃ us kk n,m=.l us∧i=.c (.int kk n)∧0≤n∧n.toNat+1≤us.length∧aar_ us n.toNat 1=true∧r=.l (jk_ us n.toNat 1):=by
 cases m with
 | c v=>simp [Prim.ev] at h
 | l us =>
  cases i with
  | l _=>simp [Prim.ev] at h
  | c v =>
   cases v with
   | int kk n =>
    simp only [Prim.ev] at h
    split at h
    ·split at h
     ·split at h
      ·cases h
       exact ⟨us,kk,n,rfl,rfl,by assumption,by assumption,by assumption,rfl⟩
      ·cases h
     ·cases h
    ·cases h
   | _=>simp [Prim.ev] at h
def Gh.tok1 (G:Gh) (tk j i c0:Nat):Gh where
 ω:=fun b=>match G.ω b with
  | some (.o n ((r,c) :: p))=>if n=tk∧r=i∧c=c0 then some (.o j p) else some (.o n ((r,c) :: p))
  | l=>l
 β:=G.β
 H:=fun n=>if n=j then fun p=>G.H tk ((i,c0) :: p) else G.H n
 hs:=fun n p=>by
  by_cases h:n=j
  ·simp only [h,if_true];exact G.hs tk _
  ·simp only [h,if_false];exact G.hs n p
theorem aIy_ {tk j i c0:Nat} (h4:j % 4=2) {I:Lb→Prop} (hI:∀ p,I (.o tk p)):Keep I (fun n=>n=j) G w (G.tok1 tk j i c0) w:=by
 refine ⟨Nat.le_refl _,fun b _ hb=>⟨ac5_ hb (fun h0=>by simp [Gh.tok1,h0]) fun l hl hq=>?_,rfl⟩,fun b _ hb=>by simp [Gh.tok1,hb],fun b l hl hn=>⟨?_,rfl⟩,fun n hn=>⟨rfl,fun p _=>by simp [Gh.tok1,hn]⟩⟩
 ·cases l with
  | o n p =>
   cases p with
   | nil=>exact .inr ⟨_,by simp [Gh.tok1,hl],hq⟩
   | cons x p =>
    obtain ⟨r,c⟩:=x
    simp only [Gh.tok1,hl]
    split
    ·exact .inr ⟨_,rfl,qt_2 h4⟩
    ·exact .inr ⟨_,rfl,hq⟩
  | _=>simp [qt] at hq
 ·cases l with
  | o n p =>
   cases p with
   | nil=>simp [Gh.tok1,hl]
   | cons x p =>
    obtain ⟨r,c⟩:=x
    have:n≠tk:=fun e=>hn (e ▸ hI _)
    simp [Gh.tok1,hl,this]
  | _=>simp [Gh.tok1,hl]
theorem aKl_ (tys:TyAll P cx) (h:Rel M B d up s ρ G a w) (hn:∀ n,o.dst=some n→n < a.tmps.size) {x:Operand} {t:Nat} (ho:o.op=.load t x) {kv:Wk × SV}
  (hyes:aCt_ cx ⟨s.only R,[],ct,[]⟩ t (opnd d (Wk.get ⟨s.only R,[],ct,[]⟩) x)=some kv) (hk:putW d o kv.1 kv.2=k') (hd:k'.Done S ρ) (hM:∀ i,ct.i≤i→i < k'.ct.i→¬ M i) :
  Goal P (Mn M ct.i k'.ct.i) B d up ρ a w s o k'.w Q:=by
 have hw:=WOk.start h R ct
 obtain ⟨hr,hm⟩:=hw.opn x
 unfold aCt_ at hyes
 split at hyes
 ·rename_i id ix wd off hop
  rw [hop] at hr hm
  simp only [oB_] at hyes
  obtain ⟨ti,hti,hyes⟩:=hyes
  split at hyes
  ·rename_i tk x0 lo y hid
   split at hyes
   ·rename_i y0 m htk
    cases hc:(isZ lo && x0.beq y0 && Nat.beq (ti.zero.filter isN).length 1 && Nat.beq ti.zero.length ti.sz) with
    | false=>simp [hc] at hyes
    | true =>
     simp only [hc,cond_true,oI_] at hyes
     simp only [bA_] at hc
     obtain ⟨⟨⟨c1,c2⟩,c3⟩,c4⟩:=hc
     have hxy:=Lf.beq_eq c2
     subst hxy
     have hone:=nB_ c3
     have hzl:=nB_ c4
     subst hyes
     obtain ⟨kr,hkr⟩:∃ kr,(Wk.rowT ⟨s.only R,[],ct,[]⟩ y ix (tkN ct.i) wd off ti.zero)=kr:=⟨_,rfl⟩
     have hk2:putW d o { (((kr.1.em .tk1 [m,ix]).1.set (.o tk) (.tk x0 (kr.1.em .tk1 [m,ix]).2)).set (.o (tkN ct.i)) (.fl kr.2.2)) with ct:=⟨(kr.1.em .tk1 [m,ix]).1.ct.a,tkN ct.i+1⟩ } (.v ti.ag kr.2.1)=k':=by
      rw [← hk,← hkr]
     have hd1:(kr.1.em .tk1 [m,ix]).1.Done S ρ:=by
      rw [← hk2] at hd
      have h2:=putW_done.1 hd
      exact h2
     obtain ⟨hd0,r1,hr1,hrv⟩:=Wk.em_done hd1
     rw [← hkr] at hd0
     obtain ⟨p,b,n,cap,i,e1,e2,e3,e4,e5⟩:=hr
     simp only [z6_,oI_] at e1
     subst e1
     have obj:=hw.obj id
     have obt:=hw.obj tk
     rw [hid] at obj
     rw [htk] at obt
     obtain ⟨tt,ht,hden,htk2,F,n0,zs,hF,hlo,rfl,hzs,hhdr,_⟩:=obj
     have hn0:n0=0:=amp_ c1 hlo
     subst hn0
     obtain ⟨_,F',u,hF',hu,hlen,hrows⟩:=obt
     rw [hF] at hF'
     cases hF'
     rw [e2] at hden
     obtain ⟨wd2,w1,w2⟩:=hhdr b 0 n cap e2
     obtain ⟨vs,g1,g2,g3,_,g5⟩:=Wk.rowT_rel (S:=S) (w:=w) (b:=b) (base:=i * wd) (j:=tkN ct.i) (Hd:=fun c=>G.H tk [(i,c)]) (wd:=wd) ht e3 (fun r hr' hl c t' ht'=>by
      obtain ⟨v',hc,hdn⟩:=(hden.row hr' hl).2.2 c t' ht'
      rw [Nat.zero_add] at hc
      refine ⟨v',hc,fun v he=>by subst he;exact hdn.scalar,fun ys he=>?_⟩
      subst he
      have hwd:wd2=wd:=by rw [← w1 r (List.mem_of_getElem? hr'),hl]
      have hat:at2 zs i c=some (.l ys):=by simp [at2,hr',ht']
      have:=w2 i c ys hat
      rw [Nat.zero_add,Nat.zero_add,hwd,hc] at this
      exact Option.some.inj this) ti.zero _ off hd0
     rw [hkr] at g3 g5
     obtain ⟨row,c0,ys,q1,q2,q3,q4,q5⟩:=g5 hone
     have hT:=tys.ty _ _ hti
     have hrun:=j1_ (P:=P) (w:=w) hT (b:=b) (off:=i * wd+off) (vs:=vs) (by rw [g1,hzl]) g2
     have hexec:(execOp a.eval o).run P w=.ok (.value (if ti.ag then .agg vs.toArray else vs.getD 0 undef)) w:=by
      refine q9_ (x:=Instr.loadAt t (a.eval x)) (by unfold execOp;rw [ho]) ?_
      rw [e5];exact hrun
     obtain ⟨kk,hix⟩:=ko_ e3
     simp only [List.map_cons,List.map_nil,Lf.evo_ev hu,hix] at hr1
     obtain ⟨us,kk2,n2,f1,f2,f3,f4,f5,rfl⟩:=aOw_ hr1
     cases f1
     cases f2
     have hi2:((i:Int)).toNat=i:=Int.toNat_natCast i
     rw [hi2] at f4 f5 hrv
     have s1:Wk.Same ⟨s.only R,[],ct,[]⟩ kr.1:=by rw [← hkr];exact Wk.rowT_same _ _ _ _ _ _ _
     have hct:k'.ct.i=tkN ct.i+1:=by rw [← hk2,y6_]
     have hle:=aHu_ ct.i
     rw [hct,← hk2]
     refine Goal.mono (M:=Mn M (tkN ct.i) (tkN ct.i+1)) ?_ (fun i hi=>hi.imp_right fun hi=>⟨by omega,hi.2⟩)
     have hMtk:M tk:=hw.rel.ment (.o id) tk (by rw [← Wk.get_sets,hid];simp [zf_])
     have hnm:¬ M (tkN ct.i):=hM _ hle (by rw [hct];omega)
     have hne:tk≠tkN ct.i:=fun e=>hnm (e ▸ hMtk)
     have hj2:=aBw_ ct.i
     have free:=arh_ f4 f5 (i:=0) (by omega)
     obtain ⟨r',hr'1,hr'2⟩:=free
     obtain ⟨o1,o2⟩:=hrows _ _ hr'1 hr'2
     have hrow2:=hzs _ _ q1
     rw [Nat.zero_add] at hrow2
     rw [Nat.add_zero,hrow2] at o1
     cases o1
     have hown:=o2 c0 ys q3
     rw [Nat.add_zero] at hown
     have hkey:∀ q,xz_ [(Res.o (tkN ct.i),SV.fl kr.2.2),(Res.o tk,SV.tk x0 (kr.1.em .tk1 [m,ix]).2)] (.o tk q):=by
      intro q
      show St.look _ (Res.o tk)≠none
      simp only [St.look]
      cases (Res.o (tkN ct.i)).beq (.o tk) <;> simp [(Res.beq_iff (r:=Res.o tk)).2 rfl]
     refine ape_ (j:=tkN ct.i) (G2:=G.tok1 tk (tkN ct.i) i c0) (W1:=[(.o (tkN ct.i),.fl kr.2.2),(.o tk,.tk x0 (kr.1.em .tk1 [m,ix]).2)])
      h (hw.same (s1.trans (Wk.em_same kr.1 .tk1 [m,ix]))) hn hnm (aIy_ hj2 hkey) (fun r=>?_) (fun r u' hl=>?_) ?_ (fun i hi=>.inr (g3 i hi)) (fun b l hb=>?_) hexec
     ·show (((kr.1.em .tk1 [m,ix]).1.w.set (.o tk) _).set (.o (tkN ct.i)) _).look r=_
      simp only [St.look]
      by_cases h1:Res.o (tkN ct.i)=r
      ·subst h1;rw [St.look_set_self];simp [(Res.beq_iff (r:=Res.o (tkN ct.i))).2 rfl]
      ·have b1:(Res.o (tkN ct.i)).beq r=false:=by
        cases hb:(Res.o (tkN ct.i)).beq r with
        | false=>rfl
        | true=>exact absurd (Res.beq_iff.1 hb) h1
       rw [St.look_set_ne _ _ h1,b1]
       by_cases h2:Res.o tk=r
       ·subst h2;rw [St.look_set_self];simp [(Res.beq_iff (r:=Res.o tk)).2 rfl]
       ·have b2:(Res.o tk).beq r=false:=by
         cases hb:(Res.o tk).beq r with
         | false=>rfl
         | true=>exact absurd (Res.beq_iff.1 hb) h2
        rw [St.look_set_ne _ _ h2,b2];simp
     ·rcases zv_ hl with ⟨e1,e2⟩ | hl
      ·subst e1 e2
       refine ⟨_,rfl,⟨hj2,_,q4,?_⟩,.inr rfl,fun i hi=>by simp [zf_] at hi⟩
       refine hown.move rfl (fun b q hb=>⟨?_,rfl⟩) fun q=>?_
       ·simp only [List.cons_append,List.nil_append] at hb ⊢
        simp only [Gh.tok1,hb]
        rw [if_pos (by refine ⟨?_,?_,?_⟩ <;> trivial)]
       ·simp [Gh.tok1]
      ·rcases zv_ hl with ⟨e1,e2⟩ | hl
       ·subst e1 e2
        refine ⟨tk,rfl,⟨htk2,F,_,hF,hrv,by rw [ai7_ f4];exact hlen,fun i' r hg hne'=>?_⟩,.inl hMtk,fun i hi=>by simp [zf_] at hi⟩
        obtain ⟨g1,g2⟩:=aqk_ f4 hg hne'
        obtain ⟨g3,g4⟩:=hrows i' r g1 hne'
        refine ⟨g3,fun c l' hrc=>(g4 c l' hrc).move rfl (fun b q hb=>⟨?_,rfl⟩) fun q=>?_⟩
        ·simp only [List.cons_append,List.nil_append] at hb ⊢
         simp only [Gh.tok1,hb]
         rw [if_neg (by omega)]
        ·simp [Gh.tok1,hne]
       ·cases hl
     ·exact acf_ hT (q5 _ (by simp [Gh.tok1])) (by rw [g1,hzl])
     ·cases hg:G.ω b with
      | none=>simp [Gh.tok1,hg] at hb
      | some l0 =>
       have hl0:=hw.rel.lab b l0 hg
       refine ⟨?_,hl0.2⟩
       cases l0 with
       | o n' p =>
        cases p with
        | nil=>simp [Gh.tok1,hg] at hb;subst hb;exact .inl hl0.1
        | cons x p =>
         obtain ⟨r,c⟩:=x
         simp only [Gh.tok1,hg] at hb
         split at hb
         ·cases hb;exact .inr rfl
         ·cases hb;exact .inl hl0.1
       | _=>simp [Gh.tok1,hg] at hb;subst hb;exact .inl hl0.1
   ·cases hyes
  ·cases hyes
 ·cases hyes
end
def OutCs (G:Gh) (w:World):List Ck→List Value→List T→List (Option Nat)→Prop
 | [],[],[],[]=>True
 | .s :: ks,v :: vs,t :: ts,x :: is=>x=none∧Den G.q w t v∧scal t=true∧OutCs G w ks vs ts is
 | .p :: ks,v :: vs,t :: ts,x :: is=>x=none∧Den G.q w t v∧OutCs G w ks vs ts is
 | .o dp :: ks,v :: vs,t :: ts,none :: is=>v=.slice none 0 0∧t=.l []∧OutCs G w ks vs ts is
 | .o dp :: ks,v :: vs,t :: ts,some id :: is=>v=G.H id []∧Own G w id dp [] t∧OutCs G w ks vs ts is
 | _,_,_,_=>False
def OutV (G:Gh) (w:World) (r:Bool × List Ck) (c:Value) (ts:List T) (is:List (Option Nat)):Prop :=
 match r.1 with
 | true=>∃ vs:List Value,c=.agg vs.toArray∧OutCs G w r.2 vs ts is
 | false=>OutCs G w r.2 [c] ts is∧∀ x,c≠.agg x
def OutVs (G:Gh) (w:World):List (Bool × List Ck)→List Value→List T→List (Option Nat)→Prop
 | [],[],[],[]=>True
 | r :: rs,v :: vs,ts,is=>∃ t1 t2 i1 i2,ts=t1++t2∧is=i1++i2∧OutV G w r v t1 i1∧OutVs G w rs vs t2 i2
 | _,_,_,_=>False
def RetV (G:Gh) (w:World) (rs:List (Bool × List Ck)) (v:Value) (ts:List T) (is:List (Option Nat)):Prop :=
 match rs with
 | []=>ts=[]∧is=[]
 | [r]=>OutVs G w [r] [v] ts is
 | rs=>∃ vs:List Value,v=.tuple vs.toArray∧OutVs G w rs vs ts is
section
variable {w:World}
def BoxOut (G:Gh) (w:World) (bl:Nat→Option Nat):Nat→List PS→List T→Prop
 | _,[],ts=>ts=[]
 | i,.v _ _ :: ps,ts=>BoxOut G w bl (i+1) ps ts
 | i,.x n :: ps,ts=>∃ b arr elem t1 t2,bl i=some b∧G.ω b=some (.x i)∧w.heap[b]?=some (.cells arr elem (0,0))∧ts=t1++t2∧t1.length=n∧DenL G.q w t1 arr.toList ∧
   BoxOut G w bl (i+1) ps t2
def akb_ (ω:Nat→Option Lb) (w:World) (bl:Nat→Option Nat):Nat→List PS→List Value→List T→Prop
 | _,[],args,ts=>args=[]∧ts=[]
 | i,.v ag n :: ps,args,ts=>∃ c args' vs t1 t2,args=c :: args'∧ts=t1++t2∧t1.length=n∧(match ag with | true=>c=.agg vs.toArray | false=>vs=[c]∧∀ x,c≠.agg x)∧DenL ω w t1 vs ∧
   akb_ ω w bl (i+1) ps args' t2
 | i,.x n :: ps,args,ts=>∃ c args' b arr elem t1 t2,args=c :: args'∧c=.pointer (some ⟨b,0,none⟩)∧bl i=some b∧ω b=some (.x i)∧w.heap[b]?=some (.cells arr elem (0,0))∧ts=t1++t2∧t1.length=n∧DenL ω w t1 arr.toList ∧
   akb_ ω w bl (i+1) ps args' t2
structure StartOk (sg:Sig) (ω0:Nat→Option Lb) (bl:Nat→Option Nat) (w:World):Prop where
 lab:∀ b l,ω0 b=some l→b < w.heap.size∧(l=.f∨∃ i,l=.x i∧bl i=some b)
 bl:∀ i b,bl i=some b→i < sg.ps.length∧ω0 b=some (.x i)
structure Post (sg:Sig) (w:World) (ω0:Nat→Option Lb) (bl:Nat→Option Nat) (outs:List T) (v:Value) (w':World) (G:Gh) (is:List (Option Nat)) (o1 o2:List T):Prop where
 so:SameOut w w'
 size:w.heap.size≤w'.heap.size
 free:∀ b,b < w.heap.size→ω0 b=none→G.ω b=none∧w'.heap[b]?=w.heap[b]?
 frn:∀ b,ω0 b=some .f→G.ω b=some .f∧w'.heap[b]?=w.heap[b]?
 lab:∀ b l,G.ω b=some l→b < w'.heap.size
 qq:hasP sg=true→∀ b,G.q b=none→G.ω b=none
 outs:outs=o1++o2
 nodup:(is.filterMap id).Nodup
 ret:RetV G w' sg.rs v o1 is
 box:BoxOut G w' bl 0 sg.ps o2
def anr_ (P:Program) (sg:Sig) (f:FuncId) (F:Sem1):Prop :=
 ∀ (w:World) (ω0:Nat→Option Lb) (bl:Nat→Option Nat) (args:List Value) (ts outs:List T),F ts=some outs→StartOk sg ω0 bl w→akb_ ω0 w bl 0 sg.ps args ts →
  Calls P f args.toArray w fun e w'=>∃ v G is o1 o2,e=.returned v∧Post sg w ω0 bl outs v w' G is o1 o2
structure Less (G G':Gh):Prop where
 o:∀ b,G'.ω b=G.ω b∨(G'.ω b=none∧∃ i p,G.ω b=some (.o i p))
 β:G'.β=G.β
 H:G'.H=G.H
theorem Less.refl (G:Gh):Less G G:=⟨fun _=>.inl rfl,rfl,rfl⟩
theorem Less.trans {G1 G2 G3:Gh} (h:Less G1 G2) (h':Less G2 G3):Less G1 G3:=by
 refine ⟨fun b=>?_,h'.β.trans h.β,h'.H.trans h.H⟩
 rcases h'.o b with h1 | ⟨h1,i,p,h2⟩
 ·rcases h.o b with h3 | ⟨h3,h4⟩
  ·exact .inl (h1.trans h3)
  ·exact .inr ⟨h1.trans h3,h4⟩
 ·rcases h.o b with h3 | ⟨h3,h4⟩
  ·exact .inr ⟨h1,i,p,by rw [← h3];exact h2⟩
  ·rw [h3] at h2;cases h2
theorem Less.non {G G':Gh} (h:Less G G') {b:Nat} (hb:G.ω b=none):G'.ω b=none:=by
 rcases h.o b with h1 | ⟨h1,_⟩
 ·rw [h1,hb]
 ·exact h1
theorem Less.q {G G':Gh} (h:Less G G') {b:Nat} (hb:G.q b=none):G'.q b=none:=by
 refine ac5_ hb h.non fun l hl hq=>?_
 rcases h.o b with h1 | ⟨h1,_⟩
 ·exact .inr ⟨l,by rw [h1,hl],hq⟩
 ·exact .inl h1
theorem Less.x {G G':Gh} (h:Less G G') {b:Nat} {l:Lb} (hb:G.ω b=some l) (hl:∀ i p,l≠.o i p):G'.ω b=some l:=by
 rcases h.o b with h1 | ⟨_,i,p,h1⟩
 ·rw [h1,hb]
 ·rw [hb] at h1;cases h1;exact absurd rfl (hl i p)
theorem Less.er {G G':Gh} (h:Less G G') {b:Nat} (hb:er G.ω b=none):er G'.ω b=none:=by
 unfold Go.Proofs.YtjimmglpkndemaaGreatC.er at hb ⊢
 cases hg:G.ω b with
 | none=>rw [h.non hg]
 | some l =>
  rw [hg] at hb
  cases l with
  | f=>cases hb
  | x i=>cases hb
  | o i p =>
   rcases h.o b with h1 | ⟨h1,_⟩
   ·rw [h1,hg]
   ·rw [h1]
theorem Less.keep {G G':Gh} (h:Less G G') (w:World):Keep (fun l=>∃ i p,l=.o i p) (fun _=>False) G w G' w :=
 ⟨Nat.le_refl _,fun b _ hb=>⟨h.q hb,rfl⟩,fun b _ hb=>h.non hb,fun b l hb hl=>⟨h.x hb fun i p e=>hl ⟨i,p,e⟩,rfl⟩,fun _ _=>⟨by rw [h.β],fun _ _=>by rw [h.H]⟩⟩
theorem Gh.free_less (G:Gh) (id:Nat) (all:Bool):Less G (G.free id all):=by
 refine ⟨fun b=>?_,rfl,rfl⟩
 cases hg:G.ω b with
 | none=>exact .inl (Gh.free_none hg)
 | some l =>
  cases l with
  | f=>exact .inl (by simp [Gh.free,hg])
  | x i=>exact .inl (by simp [Gh.free,hg])
  | o i p =>
   simp only [Gh.free,hg]
   split
   ·exact .inr ⟨rfl,i,p,rfl⟩
   ·exact .inl rfl
variable {M:Nat→Prop} {B:Base} {d:Nat} {up:Nat→Nat→Value} {ρ:List T} {G:Gh} {a:Act} {S:Nat→Sem1} {P:Program}
theorem WOk.thaw2 {k k':Wk} {G1:Gh} (h:WOk M B d up ρ G a w k G1) {id:Nat} (hk:k.thaw id=some k'):∃ G2,WOk M B d up ρ G a w k' G2∧Less G1 G2:=by
 unfold Wk.thaw at hk
 split at hk
 ·rename_i dp x hx
  cases hk
  rw [Wk.get_sets] at hx
  refine ⟨_,⟨(h.rel.thaw hx).congr (w1_ _ _ _ _),(h.keep.mono (fun l hl=>v0_ hl) fun _ hn=>hn).trans ((G1.free_keep id true w).mono ?_ fun _ hn=>hn)⟩,G1.free_less id true⟩
  rintro l ⟨p,rfl⟩
  show (k.w.set _ _).look (.o id)≠none
  rw [St.look_set_self];simp
 ·cases hk;exact ⟨G1,h,.refl _⟩
 ·cases hk
theorem WOk.thaws2:∀ {cs:List Ce} {k k1:Wk} {G1:Gh},WOk M B d up ρ G a w k G1→k.thaws cs=some k1→∃ G2,WOk M B d up ρ G a w k1 G2∧Less G1 G2
 | [],k,k1,G1,h,hk=>by
  simp [Wk.thaws] at hk
  subst hk
  exact ⟨G1,h,.refl _⟩
 | c :: cs,k,k1,G1,h,hk=>by
  cases c with
  | o id q =>
   simp only [Wk.thaws,oB_] at hk
   obtain ⟨k2,h1,h2⟩:=hk
   obtain ⟨G2,g1,g2⟩:=h.thaw2 h1
   obtain ⟨G3,f1,f2⟩:=WOk.thaws2 g1 h2
   exact ⟨G3,f1,g2.trans f2⟩
  | p x=>exact WOk.thaws2 h (show k.thaws cs=some k1 from hk)
  | n=>exact WOk.thaws2 h (show k.thaws cs=some k1 from hk)
  | d=>exact WOk.thaws2 h (show k.thaws cs=some k1 from hk)
def RelSVs (G:Gh) (w:World) (ρ:List T):List SV→List Value→Prop
 | [],[]=>True
 | v :: vs,c :: cs=>RelSV G w ρ v c∧RelSVs G w ρ vs cs
 | _,_=>False
theorem RelSVs.keep {I:Lb→Prop} {G G':Gh} {w w':World} (k:Keep I (fun _=>False) G w G' w'):∀ {vs:List SV} {cs:List Value},RelSVs G w ρ vs cs→RelSVs G' w' ρ vs cs
 | [],[],_=>trivial
 | _ :: _,_ :: _,h=>⟨h.1.keep k fun _ _ hf=>hf,RelSVs.keep k h.2⟩
 | [],_ :: _,h=>h.elim
 | _ :: _,[],h=>h.elim
def ArgC (G:Gh) (w:World) (ρ:List T) (pl:Bool):List PS→List Value→List Lf→List (Nat × Bool × Nat)→Prop
 | [],args,xs,bs=>args=[]∧xs=[]∧bs=[]
 | .v ag n :: ps,args,xs,bs=>∃ c args' vs x1 x2,args=c :: args'∧xs=x1++x2∧x1.length=n∧(match ag with | true=>c=.agg vs.toArray | false=>vs=[c]∧∀ x,c≠.agg x)∧DenL (er G.ω) w (x1.map (Lf.ev ρ)) vs ∧
   (pl=true→DenL G.q w (x1.map (Lf.ev ρ)) vs)∧ArgC G w ρ pl ps args' x2 bs
 | .x n :: ps,args,xs,bs=>∃ c args' bx ag bs' arr elem x1 x2,args=c :: args'∧bs=(bx,ag,n) :: bs'∧c=.pointer (some ⟨G.β bx,0,none⟩)∧G.ω (G.β bx)=some (.x bx)∧w.heap[G.β bx]?=some (.cells arr elem (0,0)) ∧
   xs=x1++x2∧x1.length=n∧DenL G.q w (x1.map (Lf.ev ρ)) arr.toList∧ArgC G w ρ pl ps args' x2 bs'
theorem apu_ {pl:Bool}:∀ {ps:List PS} {vs:List SV} {cs:List Value} {k k1:Wk} {xs:List Lf} {bs:List (Nat × Bool × Nat)} {G1:Gh},WOk M B d up ρ G a w k G1→RelSVs G1 w ρ vs cs→(pl=true→aob_ k (af7_ vs)) →
  k.args vs ps=some (k1,xs,bs)→k1.Done S ρ→k.Done S ρ∧k1.ct.i=k.ct.i∧∃ G2,WOk M B d up ρ G a w k1 G2∧Less G1 G2 ∧
   ∀ G3,Less G2 G3→ArgC G3 w ρ pl ps cs xs bs
 | [],[],cs,k,k1,xs,bs,G1,hk,hr,hf,h,hd=>by
  simp only [Wk.args,oI_,Prod.mk.injEq] at h
  obtain ⟨rfl,rfl,rfl⟩:=h
  cases cs with
  | nil=>exact ⟨hd,rfl,G1,hk,.refl _,fun _ _=>⟨rfl,rfl,rfl⟩⟩
  | cons _ _=>exact hr.elim
 | .v ag' n :: ps,.v ag es :: vs,cs,k,k1,xs,bs,G1,hk,hr,hf,h,hd=>by
  cases cs with
  | nil=>exact hr.elim
  | cons c cs =>
   simp only [Wk.args] at h
   cases hc:((ag == ag') && Nat.beq es.length n) with
   | false=>simp [hc] at h
   | true =>
    simp only [hc,cond_true,oB_,oI_,Prod.mk.injEq] at h
    simp only [bA_,beq_iff_eq] at hc
    obtain ⟨rfl,hn⟩:=hc
    obtain ⟨⟨k2,x1⟩,h1,⟨k3,x2,bs2⟩,h2,rfl,rfl,rfl⟩:=h
    have hs:=Wk.vals_same h1
    obtain ⟨d2,i2,G2,w2,l2,f2⟩:=apu_ (hk.same hs) hr.2 (fun hp id hid=>by
     obtain ⟨pv,x,hx⟩:=hf hp id (by simp only [af7_];rw [vB_];exact List.mem_append_right _ hid)
     exact ⟨pv,x,by rw [hs.get];exact hx⟩) h2 hd
    have hd1:=Wk.vals_pre h1 d2
    refine ⟨hd1,i2.trans hs.i,G2,w2,l2,fun G3 l3=>?_⟩
    have hlt:=l2.trans l3
    have hlen:x1.length=n:=by
     have:=nB_ hn
     obtain ⟨vs',hvs⟩:∃ vs':List Value,RelCs G1 w ρ es vs':=by
      have h0:=hr.1
      cases ag with
      | true=>obtain ⟨vs',_,h0⟩:=h0;exact ⟨vs',h0⟩
      | false=>obtain ⟨e,rfl,h0,_⟩:=h0;exact ⟨[c],h0,trivial⟩
     obtain ⟨_,_,_,_,e4⟩:=Wk.vals_done h1 d2 hvs hk
     rw [e4,← hvs.length,this]
    have key:∀ vs':List Value,RelCs G1 w ρ es vs'→DenL (er G3.ω) w (x1.map (Lf.ev ρ)) vs'∧(pl=true→DenL G3.q w (x1.map (Lf.ev ρ)) vs'):=by
     intro vs' hvs
     obtain ⟨ts,e1,e2,e3,e4⟩:=Wk.vals_done h1 d2 hvs hk
     rw [e1]
     refine ⟨e2.keep (Nat.le_refl _) fun b _ hb=>⟨hlt.er hb,rfl⟩,fun hp=>(e3 fun id hid=>hf hp id ?_).keep (Nat.le_refl _) fun b _ hb=>⟨hlt.q hb,rfl⟩⟩
     simp only [af7_,csOf]
     rw [vB_]
     exact List.mem_append_left _ hid
    have h0:=hr.1
    cases ag with
    | true =>
     obtain ⟨vs',rfl,h0⟩:=h0
     obtain ⟨q1,q2⟩:=key vs' h0
     exact ⟨_,cs,vs',x1,x2,rfl,rfl,hlen,rfl,q1,q2,f2 G3 l3⟩
    | false =>
     obtain ⟨e,rfl,h0,h0'⟩:=h0
     obtain ⟨q1,q2⟩:=key [c] ⟨h0,trivial⟩
     exact ⟨c,cs,[c],x1,x2,rfl,rfl,hlen,⟨rfl,h0'⟩,q1,q2,f2 G3 l3⟩
 | .x n :: ps,.pt bx 0 :: vs,cs,k,k1,xs,bs,G1,hk,hr,hf,h,hd=>by
  cases cs with
  | nil=>exact hr.elim
  | cons c cs =>
   simp only [Wk.args] at h
   split at h
   ·rename_i ag es hbx
    cases hc:Nat.beq es.length n with
    | false=>simp [hc] at h
    | true =>
     simp only [hc,cond_true,oB_,oI_,Prod.mk.injEq] at h
     obtain ⟨k2,h0,⟨k3,x1⟩,h1,⟨k4,x2,bs2⟩,h2,rfl,rfl,rfl⟩:=h
     obtain ⟨Gt,wt,lt⟩:=hk.thaws2 h0
     obtain ⟨_,_,_,_,t4,t5,tf,t7,_⟩:=hk.thaws h0
     have hs:=Wk.vals_same h1
     obtain ⟨d2,i2,G2,w2,l2,f2⟩:=apu_ (wt.same hs) (hr.2.keep (lt.keep w)) (fun hp id hid=>by
      obtain ⟨pv,x,hx⟩:=hf hp id (by simp only [af7_];rw [vB_];exact List.mem_append_right _ hid)
      exact ⟨pv,x,by rw [hs.get];exact t7 _ _ _ hx⟩) h2 hd
     have hd1:=Wk.vals_pre h1 d2
     have hdk:k.Done S ρ:=by unfold Wk.Done at hd1 ⊢;rw [← t4,← t5];exact hd1
     have hbox:=hk.rel.bx bx
     rw [← Wk.get_sets,hbx] at hbox
     obtain ⟨b1,arr,elem,b2,b3⟩:=hbox
     obtain ⟨ts,e1,e2,e3,e4⟩:=Wk.vals_done h1 d2 (b3.keep (lt.keep w) fun _ _ hf=>hf) wt
     have hp:c=.pointer (some ⟨G1.β bx,0,none⟩):=hr.1
     refine ⟨hdk,by rw [i2,hs.i,t4],G2,w2,lt.trans l2,fun G3 l3=>?_⟩
     have hall:=(lt.trans l2).trans l3
     refine ⟨c,cs,bx,ag,bs2,arr,elem,x1,x2,rfl,rfl,by rw [hall.β];exact hp,by rw [hall.β];exact hall.x b1 (fun _ _ e=>by cases e),by rw [hall.β];exact b2,rfl,?_,?_,f2 G3 l3⟩
     ·rw [e4,← b3.length];exact nB_ hc
     ·rw [e1];exact (e3 tf).keep (Nat.le_refl _) fun b _ hb=>⟨(l2.trans l3).q hb,rfl⟩
   ·cases h
 | [],_ :: _,cs,k,k1,xs,bs,G1,hk,hr,hf,h,hd=>by simp [Wk.args] at h
 | _ :: _,[],cs,k,k1,xs,bs,G1,hk,hr,hf,h,hd=>by simp [Wk.args] at h
 | .x _ :: _,.pt _ (_+1) :: _,cs,k,k1,xs,bs,G1,hk,hr,hf,h,hd=>by simp [Wk.args] at h
 | .v _ _ :: _,.un :: _,cs,k,k1,xs,bs,G1,hk,hr,hf,h,hd=>by simp [Wk.args] at h
 | .v _ _ :: _,.pt _ _ :: _,cs,k,k1,xs,bs,G1,hk,hr,hf,h,hd=>by simp [Wk.args] at h
 | .v _ _ :: _,.ep _ _ _ _ _ :: _,cs,k,k1,xs,bs,G1,hk,hr,hf,h,hd=>by simp [Wk.args] at h
 | .v _ _ :: _,.fp _ _ _ _ :: _,cs,k,k1,xs,bs,G1,hk,hr,hf,h,hd=>by simp [Wk.args] at h
 | .v _ _ :: _,.tp _ :: _,cs,k,k1,xs,bs,G1,hk,hr,hf,h,hd=>by simp [Wk.args] at h
 | .v _ _ :: _,.cl _ _ :: _,cs,k,k1,xs,bs,G1,hk,hr,hf,h,hd=>by simp [Wk.args] at h
 | .v _ _ :: _,.ob _ _ :: _,cs,k,k1,xs,bs,G1,hk,hr,hf,h,hd=>by simp [Wk.args] at h
 | .v _ _ :: _,.fz _ _ :: _,cs,k,k1,xs,bs,G1,hk,hr,hf,h,hd=>by simp [Wk.args] at h
 | .v _ _ :: _,.tk _ _ :: _,cs,k,k1,xs,bs,G1,hk,hr,hf,h,hd=>by simp [Wk.args] at h
 | .v _ _ :: _,.fl _ :: _,cs,k,k1,xs,bs,G1,hk,hr,hf,h,hd=>by simp [Wk.args] at h
 | .v _ _ :: _,.fr _ :: _,cs,k,k1,xs,bs,G1,hk,hr,hf,h,hd=>by simp [Wk.args] at h
 | .x _ :: _,.un :: _,cs,k,k1,xs,bs,G1,hk,hr,hf,h,hd=>by simp [Wk.args] at h
 | .x _ :: _,.v _ _ :: _,cs,k,k1,xs,bs,G1,hk,hr,hf,h,hd=>by simp [Wk.args] at h
 | .x _ :: _,.ep _ _ _ _ _ :: _,cs,k,k1,xs,bs,G1,hk,hr,hf,h,hd=>by simp [Wk.args] at h
 | .x _ :: _,.fp _ _ _ _ :: _,cs,k,k1,xs,bs,G1,hk,hr,hf,h,hd=>by simp [Wk.args] at h
 | .x _ :: _,.tp _ :: _,cs,k,k1,xs,bs,G1,hk,hr,hf,h,hd=>by simp [Wk.args] at h
 | .x _ :: _,.cl _ _ :: _,cs,k,k1,xs,bs,G1,hk,hr,hf,h,hd=>by simp [Wk.args] at h
 | .x _ :: _,.ob _ _ :: _,cs,k,k1,xs,bs,G1,hk,hr,hf,h,hd=>by simp [Wk.args] at h
 | .x _ :: _,.fz _ _ :: _,cs,k,k1,xs,bs,G1,hk,hr,hf,h,hd=>by simp [Wk.args] at h
 | .x _ :: _,.tk _ _ :: _,cs,k,k1,xs,bs,G1,hk,hr,hf,h,hd=>by simp [Wk.args] at h
 | .x _ :: _,.fl _ :: _,cs,k,k1,xs,bs,G1,hk,hr,hf,h,hd=>by simp [Wk.args] at h
 | .x _ :: _,.fr _ :: _,cs,k,k1,xs,bs,G1,hk,hr,hf,h,hd=>by simp [Wk.args] at h
end
theorem agr_ {W:St} {r:Res} {u:SV} (h:W.look r=some u):(r,u)∈W:=by
 induction W with
 | nil=>cases h
 | cons x W ih =>
  obtain ⟨r',v⟩:=x
  rcases zv_ h with ⟨rfl,rfl⟩ | h
  ·exact List.mem_cons_self
  ·exact List.mem_cons_of_mem _ (ih h)
def yZ_:Nat→List Ck→List (Option Nat)→Ren
 | i,.o _ :: ks,x :: is=>(odN i,x) :: yZ_ (odN i+1) ks is
 | i,_ :: ks,_ :: is=>yZ_ i ks is
 | _,_,_=>[]
theorem jz_:∀ {ks:List Ck} {is:List (Option Nat)} {i j:Nat} {x:Option Nat},(j,x)∈yZ_ i ks is→i≤j∧x∈is
 | [],is,i,j,x,h=>by simp [yZ_] at h
 | _ :: _,[],i,j,x,h=>by simp [yZ_] at h
 | .o _ :: ks,y :: is,i,j,x,h=>by
  simp only [yZ_,List.mem_cons,Prod.mk.injEq] at h
  have hod:=av6_ i
  rcases h with ⟨rfl,rfl⟩ | h
  ·exact ⟨hod,by simp⟩
  ·have:=jz_ h;exact ⟨by omega,by simp [this.2]⟩
 | .s :: ks,y :: is,i,j,x,h=>by have:=jz_ (show (j,x)∈yZ_ i ks is from h);exact ⟨this.1,by simp [this.2]⟩
 | .p :: ks,y :: is,i,j,x,h=>by have:=jz_ (show (j,x)∈yZ_ i ks is from h);exact ⟨this.1,by simp [this.2]⟩
theorem ahj_:∀ {ks:List Ck} {is:List (Option Nat)} {i j:Nat} {x:Option Nat},(j,x)∈yZ_ i ks is→xP_ (yZ_ i ks is) j=some x
 | [],is,i,j,x,h=>by simp [yZ_] at h
 | _ :: _,[],i,j,x,h=>by simp [yZ_] at h
 | .o _ :: ks,y :: is,i,j,x,h=>by
  simp only [yZ_,List.mem_cons,Prod.mk.injEq] at h
  rcases h with ⟨rfl,rfl⟩ | h
  ·simp [yZ_,xP_]
  ·have h1:=(jz_ h).1
   have:Nat.beq (odN i) j=false:=by
    cases hb:Nat.beq (odN i) j with
    | false=>rfl
    | true=>have:=nB_ hb;omega
   simp only [yZ_,xP_,this,cond_false]
   exact ahj_ h
 | .s :: ks,y :: is,i,j,x,h=>ahj_ (ks:=ks) (is:=is) h
 | .p :: ks,y :: is,i,j,x,h=>ahj_ (ks:=ks) (is:=is) h
theorem abr_:∀ {ks:List Ck} {is:List (Option Nat)} {i j k:Nat},(is.filterMap id).Nodup→(j,some k)∈yZ_ i ks is→xL_ (yZ_ i ks is) k=some j
 | [],is,i,j,k,_,h=>by simp [yZ_] at h
 | _ :: _,[],i,j,k,_,h=>by simp [yZ_] at h
 | .o _ :: ks,none :: is,i,j,k,hn,h=>by
  simp only [yZ_,List.mem_cons,Prod.mk.injEq] at h
  rcases h with ⟨_,h⟩ | h
  ·cases h
  ·simp only [yZ_,xL_];exact abr_ (by simpa using hn) h
 | .o _ :: ks,some y :: is,i,j,k,hn,h=>by
  simp only [List.filterMap_cons_some (f:=id) (a:=some y) rfl,List.nodup_cons] at hn
  simp only [yZ_,List.mem_cons,Prod.mk.injEq] at h
  rcases h with ⟨rfl,h⟩ | h
  ·cases h;simp [yZ_,xL_]
  ·have hne:Nat.beq y k=false:=by
    cases hb:Nat.beq y k with
    | false=>rfl
    | true =>
     have:=nB_ hb
     subst this
     exact absurd (show y∈is.filterMap id from List.mem_filterMap.2 ⟨some y,(jz_ h).2,rfl⟩) hn.1
   simp only [yZ_,xL_,hne,cond_false]
   exact abr_ hn.2 h
 | .s :: ks,y :: is,i,j,k,hn,h=>by
  refine abr_ (ks:=ks) (is:=is) ?_ h
  cases y with
  | none=>simpa using hn
  | some y=>simp only [List.filterMap_cons_some (f:=id) (a:=some y) rfl,List.nodup_cons] at hn;exact hn.2
 | .p :: ks,y :: is,i,j,k,hn,h=>by
  refine abr_ (ks:=ks) (is:=is) ?_ h
  cases y with
  | none=>simpa using hn
  | some y=>simp only [List.filterMap_cons_some (f:=id) (a:=some y) rfl,List.nodup_cons] at hn;exact hn.2
theorem jV_:∀ {rn:Ren} {k j:Nat},xL_ rn k=some j→(j,some k)∈rn
 | [],k,j,h=>by simp [xL_] at h
 | (i,none) :: rn,k,j,h=>List.mem_cons_of_mem _ (jV_ (show xL_ rn k=some j from h))
 | (i,some y) :: rn,k,j,h=>by
  simp only [xL_] at h
  cases hb:Nat.beq y k with
  | true=>simp [hb] at h;subst h;rw [nB_ hb];exact List.mem_cons_self
  | false=>simp [hb] at h;exact List.mem_cons_of_mem _ (jV_ h)
theorem jD_:∀ {rn:Ren} {j:Nat} {x:Option Nat},xP_ rn j=some x→(j,x)∈rn
 | [],k,j,h=>by simp [xP_] at h
 | (i,y) :: rn,j,x,h=>by
  simp only [xP_] at h
  cases hb:Nat.beq i j with
  | true=>simp [hb] at h;subst h;rw [nB_ hb];exact List.mem_cons_self
  | false=>simp [hb] at h;exact List.mem_cons_of_mem _ (jD_ h)
def kP:Ck→Bool
 | .p | .o false=>true
 | _=>false
theorem Own.flatMove {G G':Gh} {w:World} {id j:Nat} {t:T} (h:Own G w id false [] t) (hω:∀ c,G.ω c=some (.o id [])→G'.ω c=some (.o j [])) (hH:G'.H j []=G.H id [])
  (hn:∀ b,G.q b=none→G'.q b=none):Own G' w j false [] t:=by
 cases h with
 | nil h=>exact .nil (by rw [hH];exact h)
 | @l _ _ xs b wd cap arr elem cv h1 h2 h3 h4 h5 h6 h7 h8 h9 h10 h11 =>
  exact .l (by rw [hH];exact h1) h2 (hω _ h3) h4 h5 h6 h7 h8 (fun i j ys hy hd=>(h9 i j ys hy hd).keep (Nat.le_refl _) fun b _ hb=>⟨hn b hb,rfl⟩) (fun _ _ _ _ hd=>by cases hd) fun _ _ _ _ hd=>by cases hd
section
variable {w':World} {ρ:List T} {G' G2:Gh}
theorem aiz_ {rn:Ren} (hH:∀ j x,xP_ rn j=some x→G2.H j=match x with | some id=>G'.H id | none=>fun _=>.slice none 0 0)
  (hω:∀ j id,xL_ rn id=some j→∀ c r,G'.ω c=some (.o id r)→G2.ω c=some (.o j r)) :
  ∀ {ks:List Ck} {us:List Value} {ts:List T} {is:List (Option Nat)} {ct:Ct},OutCs G' w' ks us ts is→(∀ j t,ts[j]?=some t→ρ[ct.a+j]?=some t) →
   (∀ k∈ks,kP k=true→∀ b,G'.q b=none→G2.q b=none)→(∀ j x,(j,x)∈yZ_ ct.i ks is→xP_ rn j=some x)→(∀ j id,(j,some id)∈yZ_ ct.i ks is→xL_ rn id=some j) →
   RelCs G2 w' ρ (zH_ ct ks).2.1 us∧(zH_ ct ks).1.a=ct.a+ts.length∧ct.i≤(zH_ ct ks).1.i∧(∀ i∈zl_ (zH_ ct ks).2.1,ct.i≤i∧i < (zH_ ct ks).1.i) ∧
   (∀ j x,(j,x)∈yZ_ ct.i ks is→j < (zH_ ct ks).1.i) ∧
   ∀ r u,(r,u)∈(zH_ ct ks).2.2→∃ j,r=.o j∧ct.i≤j∧j < (zH_ ct ks).1.i∧RelObj G2 w' ρ j u∧zf_ u=[]
 | [],[],[],[],ct,_,_,_,_,_=>⟨trivial,rfl,Nat.le_refl _,fun i hi=>by simp [zH_,zl_] at hi,fun j x h=>by simp [yZ_] at h,fun r u h=>by simp [zH_] at h⟩
 | .s :: ks,u :: us,t :: ts,x :: is,ct,h,hρ,hp,h1,h2=>by
  obtain ⟨rfl,hd,hs,h⟩:=h
  obtain ⟨g1,g2,g3,g4,g5,g6⟩:=aiz_ hH hω (ct:=⟨ct.a+1,ct.i⟩) h (fun j t' hj=>by have:=hρ (j+1) t' (by simpa using hj);rw [← this];congr 1;show ct.a+1+j=_;omega) (fun k hk=>hp k (by simp [hk])) h1 h2
  have h0:ρ[ct.a]?=some t:=hρ 0 t rfl
  obtain ⟨v,rfl⟩:=aez_ hs
  obtain ⟨rfl,hv⟩:=hd.scalar
  refine ⟨⟨⟨.c u,h0,.c hv⟩,g1⟩,?_,g3,?_,g5,g6⟩
  ·simp only [zH_,List.length_cons];rw [g2];show ct.a+1+_=_;omega
  ·intro i hi;simp only [zH_,zl_] at hi;exact g4 i hi
 | .p :: ks,u :: us,t :: ts,x :: is,ct,h,hρ,hp,h1,h2=>by
  obtain ⟨rfl,hd,h⟩:=h
  obtain ⟨g1,g2,g3,g4,g5,g6⟩:=aiz_ hH hω (ct:=⟨ct.a+1,ct.i⟩) h (fun j t' hj=>by have:=hρ (j+1) t' (by simpa using hj);rw [← this];congr 1;show ct.a+1+j=_;omega) (fun k hk=>hp k (by simp [hk])) h1 h2
  have h0:ρ[ct.a]?=some t:=hρ 0 t rfl
  refine ⟨⟨⟨t,h0,hd.keep (Nat.le_refl _) fun b _ hb=>⟨hp .p (by simp) rfl b hb,rfl⟩⟩,g1⟩,?_,g3,?_,g5,g6⟩
  ·simp only [zH_,List.length_cons];rw [g2];show ct.a+1+_=_;omega
  ·intro i hi;simp only [zH_,zl_] at hi;exact g4 i hi
 | .o dp :: ks,u :: us,t :: ts,none :: is,ct,h,hρ,hp,h1,h2=>by
  obtain ⟨rfl,rfl,h⟩:=h
  obtain ⟨g1,g2,g3,g4,g5,g6⟩:=aiz_ hH hω (ct:=⟨ct.a+1,odN ct.i+1⟩) h (fun j t' hj=>by have:=hρ (j+1) t' (by simpa using hj);rw [← this];congr 1;show ct.a+1+j=_;omega) (fun k hk=>hp k (by simp [hk]))
   (fun j x hj=>h1 j x (by simp [yZ_,hj])) (fun j id hj=>h2 j id (by simp [yZ_,hj]))
  have h0:ρ[ct.a]?=some (.l []):=hρ 0 _ rfl
  have hr:=hH (odN ct.i) none (h1 (odN ct.i) none (by simp [yZ_]))
  simp only at hr
  have g3':odN ct.i+1≤(zH_ ⟨ct.a+1,odN ct.i+1⟩ ks).1.i:=g3
  have hod:=av6_ ct.i
  refine ⟨⟨⟨[],rfl,by rw [hr]⟩,g1⟩,?_,by simp only [zH_];omega,?_,?_,?_⟩
  ·simp only [zH_,List.length_cons];rw [g2];show ct.a+1+_=_;omega
  ·intro i hi
   simp only [zH_,zl_,List.mem_cons] at hi ⊢
   rcases hi with rfl | hi
   ·omega
   ·have:=g4 i hi
    have h3:odN ct.i+1≤i:=this.1
    omega
  ·intro j x hj
   simp only [yZ_,List.mem_cons,Prod.mk.injEq] at hj
   simp only [zH_]
   rcases hj with ⟨rfl,_⟩ | hj
   ·omega
   ·exact g5 j x hj
  ·intro r u' hru
   simp only [zH_,List.mem_cons,Prod.mk.injEq] at hru ⊢
   rcases hru with ⟨rfl,rfl⟩ | hru
   ·exact ⟨odN ct.i,rfl,hod,by omega,⟨.l [],h0,.nil (by rw [hr])⟩,rfl⟩
   ·obtain ⟨j,e1,e2,e3,e4,e5⟩:=g6 r u' hru
    have e2':odN ct.i+1≤j:=e2
    exact ⟨j,e1,by omega,e3,e4,e5⟩
 | .o dp :: ks,u :: us,t :: ts,some id :: is,ct,h,hρ,hp,h1,h2=>by
  obtain ⟨rfl,hown,h⟩:=h
  obtain ⟨g1,g2,g3,g4,g5,g6⟩:=aiz_ hH hω (ct:=⟨ct.a+1,odN ct.i+1⟩) h (fun j t' hj=>by have:=hρ (j+1) t' (by simpa using hj);rw [← this];congr 1;show ct.a+1+j=_;omega) (fun k hk=>hp k (by simp [hk]))
   (fun j x hj=>h1 j x (by simp [yZ_,hj])) (fun j id hj=>h2 j id (by simp [yZ_,hj]))
  have h0:ρ[ct.a]?=some t:=hρ 0 _ rfl
  have hr:=hH (odN ct.i) (some id) (h1 (odN ct.i) (some id) (by simp [yZ_]))
  simp only at hr
  have ht:=hω (odN ct.i) id (h2 (odN ct.i) id (by simp [yZ_]))
  have g3':odN ct.i+1≤(zH_ ⟨ct.a+1,odN ct.i+1⟩ ks).1.i:=g3
  have hod:=av6_ ct.i
  refine ⟨⟨⟨[],rfl,by rw [hr]⟩,g1⟩,?_,by simp only [zH_];omega,?_,?_,?_⟩
  ·simp only [zH_,List.length_cons];rw [g2];show ct.a+1+_=_;omega
  ·intro i hi
   simp only [zH_,zl_,List.mem_cons] at hi ⊢
   rcases hi with rfl | hi
   ·omega
   ·have:=g4 i hi
    have h3:odN ct.i+1≤i:=this.1
    omega
  ·intro j x hj
   simp only [yZ_,List.mem_cons,Prod.mk.injEq] at hj
   simp only [zH_]
   rcases hj with ⟨rfl,_⟩ | hj
   ·omega
   ·exact g5 j x hj
  ·intro r u' hru
   simp only [zH_,List.mem_cons,Prod.mk.injEq] at hru ⊢
   rcases hru with ⟨rfl,rfl⟩ | hru
   ·refine ⟨odN ct.i,rfl,hod,by omega,⟨t,h0,?_⟩,rfl⟩
    cases dp with
    | true=>exact hown.move rfl (fun c r hc=>⟨ht c r hc,rfl⟩) fun r=>by rw [hr]
    | false=>exact hown.flatMove (fun c hc=>ht c [] hc) (by rw [hr]) (hp (.o false) (by simp) rfl)
   ·obtain ⟨j,e1,e2,e3,e4,e5⟩:=g6 r u' hru
    have e2':odN ct.i+1≤j:=e2
    exact ⟨j,e1,by omega,e3,e4,e5⟩
 | [],_ :: _,_,_,ct,h,_,_,_,_=>by simp [OutCs] at h
 | [],[],_ :: _,_,ct,h,_,_,_,_=>by simp [OutCs] at h
 | [],[],[],_ :: _,ct,h,_,_,_,_=>by simp [OutCs] at h
 | k :: _,[],_,_,ct,h,_,_,_,_=>by cases k <;> simp [OutCs] at h
 | k :: _,_ :: _,[],_,ct,h,_,_,_,_=>by cases k <;> simp [OutCs] at h
 | k :: _,_ :: _,_ :: _,[],ct,h,_,_,_,_=>by cases k <;> simp [OutCs] at h
theorem ur_:∀ (k1 k2:List Ck) (ct:Ct),zH_ ct (k1++k2)=((zH_ (zH_ ct k1).1 k2).1,(zH_ ct k1).2.1++(zH_ (zH_ ct k1).1 k2).2.1,(zH_ ct k1).2.2++(zH_ (zH_ ct k1).1 k2).2.2)
 | [],k2,ct=>by simp [zH_]
 | .o dp :: k1,k2,ct=>by simp [zH_,ur_ k1 k2]
 | .s :: k1,k2,ct=>by simp [zH_,ur_ k1 k2]
 | .p :: k1,k2,ct=>by simp [zH_,ur_ k1 k2]
def allK:List (Bool × List Ck)→List Ck
 | []=>[]
 | r :: rs=>r.2++allK rs
theorem ao9_:∀ (rs:List (Bool × List Ck)) (ct:Ct),(x3_ ct rs).1=(zH_ ct (allK rs)).1∧(x3_ ct rs).2.2=(zH_ ct (allK rs)).2.2
 | [],ct=>⟨rfl,rfl⟩
 | r :: rs,ct=>by
  obtain ⟨h1,h2⟩:=ao9_ rs (zH_ ct r.2).1
  simp only [x3_,allK,ur_]
  exact ⟨h1,by rw [h2]⟩
theorem RelCs.split {G:Gh} {w:World}:∀ {c1 c2:List Ce} {v1 v2:List Value},c1.length=v1.length→RelCs G w ρ (c1++c2) (v1++v2)→RelCs G w ρ c1 v1∧RelCs G w ρ c2 v2
 | [],_,[],_,_,h=>⟨trivial,h⟩
 | [],_,_ :: _,_,h,_=>by simp at h
 | _ :: _,_,[],_,h,_=>by simp at h
 | c :: c1,_,v :: v1,_,h,hr=>by
  obtain ⟨h1,h2⟩:=RelCs.split (by simpa using h) hr.2
  exact ⟨⟨hr.1,h1⟩,h2⟩
theorem ql_:∀ (ks:List Ck) (ct:Ct),(zH_ ct ks).2.1.length=ks.length
 | [],ct=>rfl
 | .o dp :: ks,ct=>by simp [zH_,ql_ ks]
 | .s :: ks,ct=>by simp [zH_,ql_ ks]
 | .p :: ks,ct=>by simp [zH_,ql_ ks]
theorem OutCs.len:∀ {ks:List Ck} {us:List Value} {ts:List T} {is:List (Option Nat)},OutCs G' w' ks us ts is→us.length=ks.length∧ts.length=ks.length∧is.length=ks.length
 | [],[],[],[],_=>⟨rfl,rfl,rfl⟩
 | .s :: ks,_ :: us,_ :: ts,x :: is,h=>by have:=OutCs.len h.2.2.2;simp [this]
 | .p :: ks,_ :: us,_ :: ts,x :: is,h=>by have:=OutCs.len h.2.2;simp [this]
 | .o _ :: ks,_ :: us,_ :: ts,none :: is,h=>by have:=OutCs.len h.2.2;simp [this]
 | .o _ :: ks,_ :: us,_ :: ts,some _ :: is,h=>by have:=OutCs.len h.2.2;simp [this]
 | [],_ :: _,_,_,h=>by simp [OutCs] at h
 | [],[],_ :: _,_,h=>by simp [OutCs] at h
 | [],[],[],_ :: _,h=>by simp [OutCs] at h
 | k :: _,[],_,_,h=>by cases k <;> simp [OutCs] at h
 | k :: _,_ :: _,[],_,h=>by cases k <;> simp [OutCs] at h
 | k :: _,_ :: _,_ :: _,[],h=>by cases k <;> simp [OutCs] at h
theorem OutCs.append:∀ {k1:List Ck} {u1:List Value} {t1:List T} {i1:List (Option Nat)} {k2:List Ck} {u2:List Value} {t2:List T} {i2:List (Option Nat)},OutCs G' w' k1 u1 t1 i1→OutCs G' w' k2 u2 t2 i2 →
  OutCs G' w' (k1++k2) (u1++u2) (t1++t2) (i1++i2)
 | [],[],[],[],_,_,_,_,_,h=>h
 | .s :: ks,_ :: us,_ :: ts,x :: is,_,_,_,_,h,h'=>⟨h.1,h.2.1,h.2.2.1,OutCs.append h.2.2.2 h'⟩
 | .p :: ks,_ :: us,_ :: ts,x :: is,_,_,_,_,h,h'=>⟨h.1,h.2.1,OutCs.append h.2.2 h'⟩
 | .o _ :: ks,_ :: us,_ :: ts,none :: is,_,_,_,_,h,h'=>⟨h.1,h.2.1,OutCs.append h.2.2 h'⟩
 | .o _ :: ks,_ :: us,_ :: ts,some _ :: is,_,_,_,_,h,h'=>⟨h.1,h.2.1,OutCs.append h.2.2 h'⟩
 | [],_ :: _,_,_,_,_,_,_,h,_=>by simp [OutCs] at h
 | [],[],_ :: _,_,_,_,_,_,h,_=>by simp [OutCs] at h
 | [],[],[],_ :: _,_,_,_,_,h,_=>by simp [OutCs] at h
 | k :: _,[],_,_,_,_,_,_,h,_=>by cases k <;> simp [OutCs] at h
 | k :: _,_ :: _,[],_,_,_,_,_,h,_=>by cases k <;> simp [OutCs] at h
 | k :: _,_ :: _,_ :: _,[],_,_,_,_,h,_=>by cases k <;> simp [OutCs] at h
theorem aug_:∀ {rs:List (Bool × List Ck)} {vs:List Value} {ts:List T} {is:List (Option Nat)},OutVs G' w' rs vs ts is →
  ∃ us:List Value,OutCs G' w' (allK rs) us ts is∧∀ (G2:Gh) (w2:World) (ct:Ct),RelCs G2 w2 ρ (zH_ ct (allK rs)).2.1 us→RelTp G2 w2 ρ (x3_ ct rs).2.1 vs
 | [],[],[],[],_=>⟨[],trivial,fun _ _ _ _=>trivial⟩
 | r :: rs,v :: vs,ts,is,h=>by
  obtain ⟨t1,t2,i1,i2,rfl,rfl,h1,h2⟩:=h
  obtain ⟨us,g1,g2⟩:=aug_ h2
  obtain ⟨ag,ks⟩:=r
  have key:∀ u1:List Value,OutCs G' w' ks u1 t1 i1→(∀ (G2:Gh) (w2:World) (cs:List Ce),RelCs G2 w2 ρ cs u1→cs.length=ks.length→RelVal G2 w2 ρ ag cs v) →
    ∃ us:List Value,OutCs G' w' (allK ((ag,ks) :: rs)) us (t1++t2) (i1++i2)∧∀ (G2:Gh) (w2:World) (ct:Ct),RelCs G2 w2 ρ (zH_ ct (allK ((ag,ks) :: rs))).2.1 us→RelTp G2 w2 ρ (x3_ ct ((ag,ks) :: rs)).2.1 (v :: vs):=by
   intro u1 hu hv
   refine ⟨u1++us,hu.append g1,fun G2 w2 ct hr=>?_⟩
   simp only [allK,ur_] at hr
   obtain ⟨r1,r2⟩:=RelCs.split (by rw [ql_,(OutCs.len hu).1]) hr
   exact ⟨hv G2 w2 _ r1 (ql_ _ _),g2 G2 w2 _ r2⟩
  cases ag with
  | true =>
   obtain ⟨u1,rfl,hu⟩:=h1
   exact key u1 hu fun G2 w2 cs hr _=>⟨u1,rfl,hr⟩
  | false =>
   obtain ⟨hu,hna⟩:=h1
   refine key [v] hu fun G2 w2 cs hr hl=>?_
   have:=(OutCs.len hu).1
   rw [← this] at hl
   match cs,hl with
   | [c],_=>exact ⟨c,rfl,hr.1,hna⟩
 | [],[],_ :: _,_,h=>h.elim
 | [],[],[],_ :: _,h=>h.elim
 | [],_ :: _,_,_,h=>h.elim
 | _ :: _,[],_,_,h=>h.elim
def zZ_:Nat→List PS→List (Nat × Bool × Nat)→List (Nat × Nat)
 | i,.v _ _ :: ps,bs=>zZ_ (i+1) ps bs
 | i,.x _ :: ps,b :: bs=>(i,b.1) :: zZ_ (i+1) ps bs
 | _,_,_=>[]
def adb_:List (Nat × Bool × Nat)→Nat
 | []=>0
 | b :: bs=>b.2.2+adb_ bs
theorem aA3_:∀ (bs:List (Nat × Bool × Nat)) (a:Nat),(v2_ a bs).1=a+adb_ bs
 | [],a=>rfl
 | b :: bs,a=>by obtain ⟨bx,ag,n⟩:=b;simp only [v2_,adb_,aA3_ bs];omega
theorem ac3_ {w:World} {G:Gh}:∀ {n a:Nat} {ts:List T} {vs:List Value},ts.length=n→DenL G.q w ts vs→(∀ j t,ts[j]?=some t→ρ[a+j]?=some t)→RelCs G w ρ (vu_ a n) vs∧zl_ (vu_ a n)=[]
 | 0,a,[],[],_,_,_=>⟨trivial,rfl⟩
 | 0,a,[],_ :: _,_,h,_=>h.elim
 | 0,a,_ :: _,_,h,_,_=>by simp at h
 | n+1,a,[],_,h,_,_=>by simp at h
 | n+1,a,_ :: _,[],_,h,_=>h.elim
 | n+1,a,t :: ts,v :: vs,hl,h,hρ=>by
  obtain ⟨g1,g2⟩:=ac3_ (a:=a+1) (by simpa using hl) h.2 (fun j t' hj=>by have:=hρ (j+1) t' (by simpa using hj);rw [← this];congr 1;omega)
  exact ⟨⟨⟨t,hρ 0 t rfl,h.1⟩,g1⟩,by simp [vu_,zl_,g2]⟩
theorem awr_ {bl:Nat→Option Nat} (hn:∀ b,G'.q b=none→G2.q b=none) {G1:Gh} {w:World} {pl:Bool} :
  ∀ {ps:List PS} {args:List Value} {xs:List Lf} {bs:List (Nat × Bool × Nat)} {i a:Nat} {ts:List T},ArgC G1 w ρ pl ps args xs bs→BoxOut G' w' bl i ps ts→(∀ j t,ts[j]?=some t→ρ[a+j]?=some t) →
   (∀ j bx,(j,bx)∈zZ_ i ps bs→bl j=some (G2.β bx)∧G2.ω (G2.β bx)=some (.x bx)) →
   ts.length=adb_ bs∧∀ r u,(r,u)∈(v2_ a bs).2→∃ j bx,(j,bx)∈zZ_ i ps bs∧r=.x bx∧RelBox G2 w' ρ bx u∧zf_ u=[]
 | [],args,xs,bs,i,a,ts,hA,hB,hρ,hp=>by
  obtain ⟨_,_,rfl⟩:=hA
  cases hB
  exact ⟨rfl,fun r u h=>by simp [v2_] at h⟩
 | .v ag n :: ps,args,xs,bs,i,a,ts,hA,hB,hρ,hp=>by
  obtain ⟨c,args',vs,x1,x2,_,_,_,_,_,_,hA⟩:=hA
  exact awr_ (ps:=ps) (i:=i+1) hn hA hB hρ hp
 | .x n :: ps,args,xs,bs,i,a,ts,hA,hB,hρ,hp=>by
  obtain ⟨c,args',bx,ag,bs',arr0,elem0,x1,x2,_,rfl,_,_,_,_,_,_,hA⟩:=hA
  obtain ⟨b,arr,elem,t1,t2,hb,hω,hh,rfl,hl,hd,hB⟩:=hB
  obtain ⟨q1,q2⟩:=hp i bx (by simp [zZ_])
  rw [hb] at q1
  cases q1
  obtain ⟨g1,g2⟩:=awr_ hn (a:=a+n) hA hB (fun j t hj=>by
   have:=hρ (n+j) t (by rw [List.getElem?_append_right (by omega)];rw [hl];simpa using hj)
   rw [← this];congr 1;omega) (fun j bx hj=>hp j bx (by simp [zZ_,hj]))
  obtain ⟨g3,g4⟩:=ac3_ (a:=a) (G:=G2) (w:=w') hl (hd.keep (Nat.le_refl _) fun b _ hb=>⟨hn b hb,rfl⟩) (fun j t hj=>hρ j t (by rw [List.getElem?_append_left (List.getElem?_eq_some_iff.1 hj).1];exact hj))
  refine ⟨by simp [adb_,hl,g1],fun r u hru=>?_⟩
  simp only [v2_,List.mem_cons,Prod.mk.injEq] at hru
  rcases hru with ⟨rfl,rfl⟩ | hru
  ·exact ⟨i,bx,by simp [zZ_],rfl,⟨q2,arr,elem,hh,g3⟩,g4⟩
  ·obtain ⟨j,bx',e1,e2⟩:=g2 r u hru
   exact ⟨j,bx',by simp [zZ_,e1],e2⟩
end
def FnIn (P:Program) (g:FuncId):Prop:=∃ fn,P.funcs[g]?=some fn∧(fn.name == "runtime.NumGoroutine")=false∧fn.body.isNone=false
theorem ajt_ {P:Program} {w:World} {g:FuncId} (h:FnIn P g) (args:Array Value):(callFunc g args).run P w=.ok (.enter g args) w:=by
 obtain ⟨fn,h1,h2,h3⟩:=h
 simp only [callFunc,Sem.run_bind,run_program,Result.andThen_ok,h1,h2,h3,bF_,if_false,Sem.run_pure]
section
variable {M:Nat→Prop} {B:Base} {d:Nat} {up:Nat→Nat→Value} {ρ:List T} {G:Gh} {a:Act} {w:World} {S:Nat→Sem1} {P:Program}
variable {cx:Cx} {fid rid oi:Nat} {s:St} {R:List Res} {ct:Ct} {k':Wk} {o:Oper} {Q:Exit→Act→World→Prop}
theorem ai4_:∀ {l:List Nat},abw_ l=true→l.Nodup
 | [],_=>List.nodup_nil
 | x :: xs,h=>by
  simp only [abw_,bA_,Bool.not_eq_true'] at h
  refine List.nodup_cons.2 ⟨fun hm=>?_,ai4_ h.2⟩
  have:=h.1
  rw [List.any_eq_false] at this
  exact this x hm (by simp)
theorem kX_:∀ {ps:List PS} {bs:List (Nat × Bool × Nat)} {i j bx:Nat},(j,bx)∈zZ_ i ps bs→i≤j∧j < i+ps.length
 | [],bs,i,j,bx,h=>by simp [zZ_] at h
 | .v _ _ :: ps,bs,i,j,bx,h=>by have:=kX_ (show (j,bx)∈zZ_ (i+1) ps bs from h);simp only [List.length_cons];omega
 | .x _ :: ps,[],i,j,bx,h=>by simp [zZ_] at h
 | .x _ :: ps,b :: bs,i,j,bx,h=>by
  simp only [zZ_,List.mem_cons,Prod.mk.injEq] at h
  simp only [List.length_cons]
  rcases h with ⟨rfl,_⟩ | h
  ·omega
  ·have:=kX_ h;omega
theorem aac_:∀ {ps:List PS} {bs:List (Nat × Bool × Nat)} {i j bx:Nat},(j,bx)∈zZ_ i ps bs→bx∈bs.map (·.1)
 | [],bs,i,j,bx,h=>by simp [zZ_] at h
 | .v _ _ :: ps,bs,i,j,bx,h=>aac_ (show (j,bx)∈zZ_ (i+1) ps bs from h)
 | .x _ :: ps,[],i,j,bx,h=>by simp [zZ_] at h
 | .x _ :: ps,b :: bs,i,j,bx,h=>by
  simp only [zZ_,List.mem_cons,Prod.mk.injEq] at h
  rcases h with ⟨_,rfl⟩ | h
  ·simp
  ·have:=aac_ h;simp only [List.map_cons,List.mem_cons];exact .inr this
theorem ail_:∀ {ps:List PS} {bs:List (Nat × Bool × Nat)} {i:Nat},(bs.map (·.1)).Nodup →
  (∀ j bx bx',(j,bx)∈zZ_ i ps bs→(j,bx')∈zZ_ i ps bs→bx=bx')∧(∀ j j' bx,(j,bx)∈zZ_ i ps bs→(j',bx)∈zZ_ i ps bs→j=j')
 | [],bs,i,_=>⟨fun _ _ _ h=>by simp [zZ_] at h,fun _ _ _ h=>by simp [zZ_] at h⟩
 | .v _ _ :: ps,bs,i,hn=>ail_ (ps:=ps) (i:=i+1) hn
 | .x _ :: ps,[],i,_=>⟨fun _ _ _ h=>by simp [zZ_] at h,fun _ _ _ h=>by simp [zZ_] at h⟩
 | .x _ :: ps,b :: bs,i,hn=>by
  simp only [List.map_cons,List.nodup_cons] at hn
  obtain ⟨g1,g2⟩:=ail_ (ps:=ps) (i:=i+1) hn.2
  constructor
  ·intro j bx bx' h h'
   simp only [zZ_,List.mem_cons,Prod.mk.injEq] at h h'
   rcases h with ⟨rfl,rfl⟩ | h <;> rcases h' with ⟨h1,rfl⟩ | h'
   ·rfl
   ·have:=kX_ h';omega
   ·have:=kX_ h;omega
   ·exact g1 j bx bx' h h'
  ·intro j j' bx h h'
   simp only [zZ_,List.mem_cons,Prod.mk.injEq] at h h'
   rcases h with ⟨rfl,rfl⟩ | h <;> rcases h' with ⟨h1,h2⟩ | h'
   ·exact h1.symm
   ·exact absurd (aac_ h') hn.1
   ·subst h2;exact absurd (aac_ h) hn.1
   ·exact g2 j j' bx h h'
def blOf (β:Nat→Nat) (pr:List (Nat × Nat)) (j:Nat):Option Nat:=(pr.find? fun p=>p.1 == j).map fun p=>β p.2
def ixOf (pr:List (Nat × Nat)) (bx:Nat):Option Nat:=(pr.find? fun p=>p.2 == bx).map (·.1)
theorem aby_ {β:Nat→Nat} {pr:List (Nat × Nat)} {j b:Nat} (h:blOf β pr j=some b):∃ bx,(j,bx)∈pr∧b=β bx:=by
 unfold blOf at h
 cases hf:pr.find? (fun p=>p.1 == j) with
 | none=>simp [hf] at h
 | some p =>
  simp [hf] at h
  have h1:=List.mem_of_find?_eq_some hf
  have h2:=List.find?_some hf
  simp at h2
  exact ⟨p.2,by rw [← h2];exact h1,h.symm⟩
theorem aNa_ {β:Nat→Nat} {pr:List (Nat × Nat)} {j bx:Nat} (hi:∀ j bx bx',(j,bx)∈pr→(j,bx')∈pr→bx=bx') (h:(j,bx)∈pr):blOf β pr j=some (β bx):=by
 cases hf:blOf β pr j with
 | none =>
  unfold blOf at hf
  simp only [Option.map_eq_none_iff,List.find?_eq_none] at hf
  exact absurd (by simp) (hf _ h)
 | some b =>
  obtain ⟨bx',h1,rfl⟩:=aby_ hf
  rw [hi j bx bx' h h1]
theorem awl_ {pr:List (Nat × Nat)} {bx j:Nat} (h:ixOf pr bx=some j):(j,bx)∈pr:=by
 unfold ixOf at h
 cases hf:pr.find? (fun p=>p.2 == bx) with
 | none=>simp [hf] at h
 | some p =>
  simp [hf] at h
  have h1:=List.mem_of_find?_eq_some hf
  have h2:=List.find?_some hf
  simp at h2
  rw [← h,← h2];exact h1
theorem aMv_ {pr:List (Nat × Nat)} {j bx:Nat} (hi:∀ j j' bx,(j,bx)∈pr→(j',bx)∈pr→j=j') (h:(j,bx)∈pr):ixOf pr bx=some j:=by
 cases hf:ixOf pr bx with
 | none =>
  unfold ixOf at hf
  simp only [Option.map_eq_none_iff,List.find?_eq_none] at hf
  exact absurd (by simp) (hf _ h)
 | some j'=>rw [hi j j' bx h (awl_ hf)]
theorem qx {G:Gh} {b bx:Nat} (h:G.ω b=some (.x bx)):G.q b=some (.x bx):=ae9_ h rfl
def vP_ (pl:Bool) (G:Gh) (pr:List (Nat × Nat)) (b:Nat):Option Lb :=
 match G.q b with
 | none=>none
 | some .f=>some .f
 | some (.o _ _)=>if pl then some .f else none
 | some (.x bx)=>if b=G.β bx then (match ixOf pr bx with | some j=>some (.x j) | none=>some .f) else some .f
theorem aCu_ {pl:Bool} {pr:List (Nat × Nat)} {b:Nat} (h:(if pl then G.q b else er G.ω b)=none):vP_ pl G pr b=none:=by
 unfold vP_
 cases hg:G.q b with
 | none=>rfl
 | some l =>
  cases pl with
  | true=>simp [hg] at h
  | false =>
   have hg2:=av9_ hg
   cases l <;> simp [er,hg2] at h ⊢
theorem auj_ {pl:Bool} {ωc:Nat→Option Lb} {bl:Nat→Option Nat} (hω:∀ b,(if pl then G.q b else er G.ω b)=none→ωc b=none) :
  ∀ {ps:List PS} {args:List Value} {xs:List Lf} {bs:List (Nat × Bool × Nat)} {i:Nat},ArgC G w ρ pl ps args xs bs→(∀ j bx,(j,bx)∈zZ_ i ps bs→bl j=some (G.β bx)∧ωc (G.β bx)=some (.x j)) →
   akb_ ωc w bl i ps args (xs.map (Lf.ev ρ))∧∀ j bx,(j,bx)∈zZ_ i ps bs→G.ω (G.β bx)=some (.x bx)
 | [],args,xs,bs,i,h,_=>by
  obtain ⟨rfl,rfl,rfl⟩:=h
  exact ⟨⟨rfl,rfl⟩,fun j bx h=>by simp [zZ_] at h⟩
 | .v ag n :: ps,args,xs,bs,i,h,hp=>by
  obtain ⟨c,args',vs,x1,x2,rfl,rfl,hl,hag,hd1,hd2,h⟩:=h
  obtain ⟨g1,g2⟩:=auj_ hω h (i:=i+1) hp
  refine ⟨⟨c,args',vs,_,_,rfl,List.map_append,by rw [List.length_map];exact hl,hag,?_,g1⟩,g2⟩
  cases pl with
  | true=>exact (hd2 rfl).keep (Nat.le_refl _) fun b _ hb=>⟨hω b (by simpa using hb),rfl⟩
  | false=>exact hd1.keep (Nat.le_refl _) fun b _ hb=>⟨hω b (by simpa using hb),rfl⟩
 | .x n :: ps,args,xs,bs,i,h,hp=>by
  obtain ⟨c,args',bx,ag,bs',arr,elem,x1,x2,rfl,rfl,hc,hb,hh,rfl,hl,hd,h⟩:=h
  obtain ⟨g1,g2⟩:=auj_ hω h (i:=i+1) fun j bx hj=>hp j bx (by simp [zZ_,hj])
  obtain ⟨q1,q2⟩:=hp i bx (by simp [zZ_])
  refine ⟨⟨c,args',G.β bx,arr,elem,_,_,rfl,hc,q1,q2,hh,List.map_append,by rw [List.length_map];exact hl,?_,g1⟩,fun j bx' hj=>?_⟩
  ·refine hd.keep (Nat.le_refl _) fun b _ hb'=>⟨hω b ?_,rfl⟩
   cases pl with
   | true=>simpa using hb'
   | false=>simpa using er_q hb'
  ·simp only [zZ_,List.mem_cons,Prod.mk.injEq] at hj
   rcases hj with ⟨_,rfl⟩ | hj
   ·exact hb
   ·exact g2 j bx' hj
theorem aDl_ {pl:Bool}:∀ {ps:List PS} {args:List Value} {xs:List Lf} {bs:List (Nat × Bool × Nat)} {i:Nat},ArgC G w ρ pl ps args xs bs→∀ j bx,(j,bx)∈zZ_ i ps bs→G.ω (G.β bx)=some (.x bx)
 | [],args,xs,bs,i,h,j,bx,hj=>by simp [zZ_] at hj
 | .v ag n :: ps,args,xs,bs,i,h,j,bx,hj=>by
  obtain ⟨c,args',vs,x1,x2,rfl,rfl,hl,hag,hd1,hd2,h⟩:=h
  exact aDl_ (ps:=ps) (i:=i+1) h j bx hj
 | .x n :: ps,args,xs,bs,i,h,j,bx,hj=>by
  obtain ⟨c,args',bx',ag,bs',arr,elem,x1,x2,rfl,rfl,hc,hb,hh,rfl,hl,hd,h⟩:=h
  simp only [zZ_,List.mem_cons,Prod.mk.injEq] at hj
  rcases hj with ⟨_,rfl⟩ | hj
  ·exact hb
  ·exact aDl_ (ps:=ps) (i:=i+1) h j bx hj
def Gh.call (G G':Gh) (sz:Nat) (rn:Ren):Gh where
 ω:=fun b=>if b < sz then G.ω b else match G'.ω b with
  | some (.o id p)=>(xL_ rn id).map fun j=>.o j p
  | _=>none
 β:=G.β
 H:=fun j=>match xP_ rn j with
  | some (some id)=>G'.H id
  | some none=>fun _=>.slice none 0 0
  | none=>G.H j
 hs:=fun j p=>by
  rcases hr:xP_ rn j with _ | (_ | id)
  ·exact G.hs j p
  ·exact ⟨_,_,_,rfl⟩
  ·exact G'.hs _ p
theorem aH6_ {sg:Sig} (h:hasP sg=false):(∀ k∈allK sg.rs,kP k=false)∧∀ p∈sg.ps,∀ n,p≠.x n:=by
 simp only [hasP,Bool.or_eq_false_iff] at h
 obtain ⟨h1,h2⟩:=h
 constructor
 ·generalize sg.rs=rs at h1
  induction rs with
  | nil=>intro k hk;simp [allK] at hk
  | cons r rs ih =>
   simp only [List.any_cons,Bool.or_eq_false_iff] at h1
   intro k hk
   simp only [allK,List.mem_append] at hk
   rcases hk with hk | hk
   ·have:=List.any_eq_false.1 h1.1 k hk
    cases k with
    | s=>rfl
    | p=>simp at this
    | o dp=>cases dp <;> simp at this ⊢;rfl
   ·exact ih h1.2 k hk
 ·intro p hp n he
  subst he
  have:=List.any_eq_false.1 h2 _ hp
  simp at this
theorem aIl_ {pl:Bool}:∀ {ps:List PS} {args:List Value} {xs:List Lf} {bs:List (Nat × Bool × Nat)},(∀ p∈ps,∀ n,p≠.x n)→ArgC G w ρ pl ps args xs bs→bs=[]
 | [],_,_,_,_,h=>h.2.2
 | .v _ _ :: ps,args,xs,bs,hp,h=>by
  obtain ⟨c,args',vs,x1,x2,_,_,_,_,_,_,h⟩:=h
  exact aIl_ (fun p hp'=>hp p (by simp [hp'])) h
 | .x n :: ps,args,xs,bs,hp,h=>absurd rfl (hp (.x n) (by simp) n)
theorem app_ {pl:Bool} {G':Gh} {w':World} {bl:Nat→Option Nat}:∀ {ps:List PS} {args:List Value} {xs:List Lf} {bs:List (Nat × Bool × Nat)} {i:Nat} {ts:List T},ArgC G w ρ pl ps args xs bs→BoxOut G' w' bl i ps ts→ts.length=adb_ bs
 | [],args,xs,bs,i,ts,hA,hB=>by
  obtain ⟨_,_,rfl⟩:=hA
  cases hB
  rfl
 | .v _ _ :: ps,args,xs,bs,i,ts,hA,hB=>by
  obtain ⟨c,args',vs,x1,x2,_,_,_,_,_,_,hA⟩:=hA
  exact app_ (ps:=ps) (i:=i+1) hA hB
 | .x n :: ps,args,xs,bs,i,ts,hA,hB=>by
  obtain ⟨c,args',bx,ag,bs',arr0,elem0,x1,x2,_,rfl,_,_,_,_,_,_,hA⟩:=hA
  obtain ⟨b,arr,elem,t1,t2,hb,hω,hh,rfl,hl,hd,hB⟩:=hB
  have:=app_ hA hB
  simp [adb_,hl,this]
theorem akg_:∀ (ks:List Ck) (ct:Ct),(zH_ ct ks).1.a=ct.a+ks.length
 | [],ct=>rfl
 | .o dp :: ks,ct=>by simp only [zH_,akg_ ks,List.length_cons];omega
 | .s :: ks,ct=>by simp only [zH_,akg_ ks,List.length_cons];omega
 | .p :: ks,ct=>by simp only [zH_,akg_ ks,List.length_cons];omega
theorem am2_:∀ {bs:List (Nat × Bool × Nat)} {a bx:Nat},bx∈bs.map (·.1)→(v2_ a bs).2.look (.x bx)≠none
 | [],a,bx,h=>by simp at h
 | b :: bs,a,bx,h=>by
  obtain ⟨b0,ag,n⟩:=b
  simp only [v2_,St.look]
  cases hb:(Res.x b0).beq (.x bx) with
  | true=>simp
  | false =>
   simp only [List.map_cons,List.mem_cons] at h
   rcases h with rfl | h
   ·simp [Res.beq] at hb
   ·exact am2_ h
theorem aMs_ {G':Gh} {w':World} {rs:List (Bool × List Ck)} {v:Value} {ts:List T} {is:List (Option Nat)} (h:RetV G' w' rs v ts is):∃ vs:List Value,OutVs G' w' rs vs ts is ∧
  ∀ (G2:Gh) (w2:World) (ct:Ct),RelTp G2 w2 ρ (x3_ ct rs).2.1 vs→RelSV G2 w2 ρ (adr_ (x3_ ct rs).2.1) v:=by
 match rs,h with
 | [],h=>obtain ⟨rfl,rfl⟩:=h;exact ⟨[],trivial,fun _ _ _ _=>trivial⟩
 | [r],h=>exact ⟨[v],h,fun G2 w2 ct hr=>hr.1⟩
 | r :: r' :: rs,h =>
  obtain ⟨vs,hv,h'⟩:=h
  exact ⟨vs,h',fun G2 w2 ct hr=>⟨vs,hv,hr⟩⟩
theorem aop_:∀ (rs:List (Bool × List Ck)) (ct:Ct),vk_ (x3_ ct rs).2.1=zl_ (zH_ ct (allK rs)).2.1
 | [],ct=>rfl
 | r :: rs,ct=>by
  simp only [x3_,allK,ur_,vk_,vB_]
  rw [aop_ rs]
theorem aNv_ (vs:List (Bool × List Ce)):∀ i∈zf_ (adr_ vs),i∈vk_ vs:=by
 intro i hi
 match vs,hi with
 | [],hi=>simp [adr_,zf_] at hi
 | [v],hi=>simpa [adr_,zf_,vk_] using hi
 | v :: v' :: vs,hi=>exact hi
theorem aL7_ (h:Rel M B d up s ρ G a w) (hn:∀ n,o.dst=some n→n < a.tmps.size) {c:Call} {g:Nat} (ho:o.op=.call c) (hc:c.callee=.value (.func g)) (hg:FnIn P g)
  {sg:Sig} (hsg:cx.sg g=some sg) (hC:anr_ P sg g (S g)) (hk:zU_ cx fid rid d o oi ⟨s.only R,[],ct,[]⟩=some k') (hd:k'.Done S ρ) (hM:∀ i,ct.i≤i→i < k'.ct.i→¬ M i) :
  Goal P (Mn M ct.i k'.ct.i) B d up ρ a w s o k'.w Q:=by
 have hw:=WOk.start h R ct
 simp only [zU_,ho,hc,hsg,Option.bind_some] at hk
 unfold aGu_ at hk
 simp only [oB_] at hk
 obtain ⟨k1,hth,⟨k2,xs,bs⟩,hargs,hk⟩:=hk
 cases hnd:abw_ (bs.map (·.1)) with
 | false=>simp [hnd] at hk
 | true =>
  simp only [hnd,cond_true,oI_] at hk
  have hnd':=ai4_ hnd
  have hrs:∀ G1,Less G G1→RelSVs G1 w ρ (c.args.toList.map fun x=>opnd d (Wk.get ⟨s.only R,[],ct,[]⟩) x) (c.args.toList.map a.eval):=by
   intro G1 hl
   generalize c.args.toList=l
   induction l with
   | nil=>trivial
   | cons x l ih=>exact ⟨(hw.opn x).1.keep (hl.keep w) fun _ _ hf=>hf,ih⟩
  obtain ⟨pl,hpl⟩:∃ pl,pl=hasP sg:=⟨_,rfl⟩
  obtain ⟨G1,w1,l1,i1,hfz,hD1⟩:∃ G1,WOk M B d up ρ G a w k1 G1∧Less G G1∧k1.ct=ct∧(pl=true→aob_ k1 (af7_ (c.args.toList.map fun x=>opnd d (Wk.get ⟨s.only R,[],ct,[]⟩) x)))∧k1.is=[]:=by
   cases hp:hasP sg with
   | false =>
    rw [hp] at hth
    simp only [cond_false,oI_] at hth
    subst hth
    exact ⟨G,hw,.refl _,rfl,(fun he=>by rw [hpl,hp] at he;cases he),rfl⟩
   | true =>
    rw [hp] at hth
    simp only [cond_true] at hth
    obtain ⟨G1,q1,q2⟩:=hw.thaws2 hth
    obtain ⟨_,_,_,_,q3,q4,q5,_⟩:=hw.thaws hth
    exact ⟨G1,q1,q2,q3,fun _=>q5,q4⟩
  have hdk:Done S ρ k'.ct.a k'.is:=hd
  rw [← hk] at hdk
  simp only at hdk
  obtain ⟨n0,outs,e1,hS,hat,hd2⟩:=hdk
  obtain ⟨f1,f2⟩:=ao9_ sg.rs k2.ct
  have hma:k2.ct.a≤(x3_ k2.ct sg.rs).1.a:=by
   have key:∀ (ks:List Ck) (ct:Ct),ct.a≤(zH_ ct ks).1.a:=by
    intro ks
    induction ks with
    | nil=>intro ct;exact Nat.le_refl _
    | cons k ks ih =>
     intro ct
     cases k with
     | s=>have:=ih ⟨ct.a+1,ct.i⟩;simp only [zH_] at this ⊢;omega
     | p=>have:=ih ⟨ct.a+1,ct.i⟩;simp only [zH_] at this ⊢;omega
     | o dp=>have:=ih ⟨ct.a+1,odN ct.i+1⟩;simp only [zH_] at this ⊢;omega
   rw [f1];exact key _ _
  have hba:=aA3_ bs (x3_ k2.ct sg.rs).1.a
  have hn0:n0=k2.ct.a:=by omega
  subst hn0
  have hd2':k2.Done S ρ:=hd2
  obtain ⟨_,i2,G2,w2,l2,hA⟩:=apu_ (pl:=pl) w1 (hrs G1 l1) hfz hargs hd2'
  have hA:=hA G2 (.refl _)
  have hlG:Less G G2:=l1.trans l2
  have hpr:=ail_ (ps:=sg.ps) (i:=0) hnd'
  have hx:=aDl_ (i:=0) hA
  have hbl:∀ j bx,(j,bx)∈zZ_ 0 sg.ps bs→blOf G2.β (zZ_ 0 sg.ps bs) j=some (G2.β bx)∧vP_ pl G2 (zZ_ 0 sg.ps bs) (G2.β bx)=some (.x j):=by
   intro j bx hj
   refine ⟨aNa_ hpr.1 hj,?_⟩
   simp only [vP_,qx (hx j bx hj),if_true,aMv_ hpr.2 hj]
  obtain ⟨hin,_⟩:=auj_ (w:=w) (fun b hb=>aCu_ (pr:=zZ_ 0 sg.ps bs) hb) hA hbl
  have hst:StartOk sg (vP_ pl G2 (zZ_ 0 sg.ps bs)) (blOf G2.β (zZ_ 0 sg.ps bs)) w:=by
   constructor
   ·intro b l hb
    cases hgb:G2.q b with
    | none=>simp [vP_,hgb] at hb
    | some l0 =>
     refine ⟨(w2.rel.lab b l0 (av9_ hgb)).2,?_⟩
     cases l0 with
     | f=>simp [vP_,hgb] at hb;exact .inl hb.symm
     | o i p=>cases pl <;> simp [vP_,hgb] at hb;exact .inl hb.symm
     | x bx =>
      simp only [vP_,hgb] at hb
      split at hb
      ·rename_i hbe
       split at hb
       ·rename_i j hj
        cases hb
        exact .inr ⟨j,rfl,by rw [hbe];exact (hbl j bx (awl_ hj)).1⟩
       ·cases hb;exact .inl rfl
      ·cases hb;exact .inl rfl
   ·intro i b hb
    obtain ⟨bx,h1,rfl⟩:=aby_ hb
    exact ⟨by have:=kX_ h1;omega,(hbl i bx h1).2⟩
  have hcall:=hC w _ _ (c.args.toList.map a.eval) _ outs hS hst hin
  have hexec:(execOp a.eval o).run P w=.ok (.enter g (c.args.toList.map a.eval).toArray) w:=by
   unfold execOp
   rw [ho]
   show Sem.run P (do let d ← resolve a.eval c o.type;invoke d.target d.args) w=_
   simp only [resolve,hc,Act.eval,Deferred.ofValue,pure_bind,invoke]
   rw [ajt_ hg]
   congr 2
   exact Array.ext' (by simp)
  simp only [Goal,Oper.wp,hexec,Oper.upon]
  refine hcall.mono ?_
  rintro e w' ⟨v,G',is,o1,o2,rfl,hpost⟩
  simp only
  let ks:=allK sg.rs
  obtain ⟨rn,hrn⟩:∃ rn,rn=yZ_ k2.ct.i ks is:=⟨_,rfl⟩
  let GG:=G2.call G' w.heap.size rn
  have hold:∀ b,b < w.heap.size→GG.ω b=G2.ω b:=fun b hb=>by show (if b < w.heap.size then _ else _)=_;rw [if_pos hb]
  have hnewb:∀ b,¬ b < w.heap.size→GG.ω b=match G'.ω b with | some (.o id p)=>(xL_ rn id).map fun j=>.o j p | _=>none:=fun b hb=>by show (if b < w.heap.size then _ else _)=_;rw [if_neg hb]
  have hcω:∀ b,G2.q b=none→vP_ pl G2 (zZ_ 0 sg.ps bs) b=none:=fun b hb=>by simp [vP_,hb]
  have hbox:∀ j bx,(j,bx)∈zZ_ 0 sg.ps bs→G'.ω (G2.β bx)=some (.x j):=by
   intro j bx hj
   have key:∀ {ps:List PS} {i0:Nat} {ts:List T} {bs':List (Nat × Bool × Nat)},BoxOut G' w' (blOf G2.β (zZ_ 0 sg.ps bs)) i0 ps ts→(j,bx)∈zZ_ i0 ps bs'→G'.ω (G2.β bx)=some (.x j):=by
    intro ps
    induction ps with
    | nil=>intro i0 ts bs' _ hm;simp [zZ_] at hm
    | cons p ps ih =>
     intro i0 ts bs' hB hm
     cases p with
     | v ag n=>exact ih (i0:=i0+1) hB hm
     | x n =>
      obtain ⟨b',arr,elem,t1,t2,hb',hω',hh',_,_,_,hB⟩:=hB
      cases bs' with
      | nil=>simp [zZ_] at hm
      | cons b0 bs0 =>
       simp only [zZ_,List.mem_cons,Prod.mk.injEq] at hm
       rcases hm with ⟨rfl,_⟩ | hm
       ·rw [(hbl j bx hj).1] at hb';cases hb';exact hω'
       ·exact ih hB hm
   exact key hpost.box hj
  have hG'old:∀ b,b < w.heap.size→∀ i p,G'.ω b≠some (.o i p):=by
   intro b hb i p hi
   cases hcb:vP_ pl G2 (zZ_ 0 sg.ps bs) b with
   | none=>have:=(hpost.free b hb hcb).1;rw [hi] at this;cases this
   | some l =>
    rcases (hst.lab b l hcb).2 with rfl | ⟨j,rfl,hj⟩
    ·have:=(hpost.frn b hcb).1;rw [hi] at this;cases this
    ·obtain ⟨bx,h1,rfl⟩:=aby_ hj
     rw [hbox j bx h1] at hi;cases hi
  have hnone:pl=true→∀ b,G'.q b=none→GG.q b=none:=by
   intro hp b hb
   replace hb:=hpost.qq (by rw [← hpl];exact hp) b hb
   by_cases hlt:b < w.heap.size
   ·rw [Gh.q_same (hold b hlt)]
    cases hcb:vP_ pl G2 (zZ_ 0 sg.ps bs) b with
    | none =>
     cases hgb:G2.q b with
     | none=>rfl
     | some l =>
      exfalso
      cases l with
      | f=>simp [vP_,hgb] at hcb
      | o i p=>simp [vP_,hgb,hp] at hcb
      | x bx =>
       simp only [vP_,hgb] at hcb
       split at hcb
       ·split at hcb <;> cases hcb
       ·cases hcb
    | some l =>
     exfalso
     rcases (hst.lab b l hcb).2 with rfl | ⟨j,rfl,hj⟩
     ·have:=(hpost.frn b hcb).1;rw [hb] at this;cases this
     ·obtain ⟨bx,h1,rfl⟩:=aby_ hj
      rw [hbox j bx h1] at hb;cases hb
   ·exact u9_ (by rw [hnewb b hlt,hb])
  obtain ⟨vs,hvs,hret⟩:=aMs_ (ρ:=ρ) hpost.ret
  obtain ⟨us,hus,htp⟩:=aug_ (ρ:=ρ) hvs
  have hul:=OutCs.len hus
  have hl1:(x3_ k2.ct sg.rs).1.a=k2.ct.a+o1.length:=by rw [f1,akg_,hul.2.1]
  have hl2:o2.length=adb_ bs:=app_ hA hpost.box
  have hm:(v2_ (x3_ k2.ct sg.rs).1.a bs).1 - k2.ct.a=o1.length+o2.length:=by omega
  have hρ1:∀ j t,o1[j]?=some t→ρ[k2.ct.a+j]?=some t:=by
   intro j t hj
   have hlt:=(List.getElem?_eq_some_iff.1 hj).1
   rw [hat j (by omega),hpost.outs,List.getD_eq_getElem?_getD,List.getElem?_append_left hlt,hj]
   rfl
  have hρ2:∀ j t,o2[j]?=some t→ρ[(x3_ k2.ct sg.rs).1.a+j]?=some t:=by
   intro j t hj
   have hlt:=(List.getElem?_eq_some_iff.1 hj).1
   have:=hat (o1.length+j) (by omega)
   rw [hl1,Nat.add_assoc,this,hpost.outs,List.getD_eq_getElem?_getD,List.getElem?_append_right (by omega),show o1.length+j - o1.length=j by omega,hj]
   rfl
  obtain ⟨r1,r2,r3,r4,r5,r6⟩:=aiz_ (G2:=GG) (rn:=rn) (w':=w') (ρ:=ρ) (fun j x hj=>by show (match xP_ rn j with | some (some id)=>G'.H id | some none=>_ | none=>G2.H j)=_;rw [hj];cases x <;> rfl)
   (fun j id hj c r hcr=>by
    have hlt:¬ c < w.heap.size:=fun hlt=>hG'old c hlt _ _ hcr
    rw [hnewb c hlt,hcr];simp only [hj,Option.map_some]) hus (ct:=k2.ct) hρ1
   (fun k hk hkp=>hnone (by
    rw [hpl]
    cases hh:hasP sg with
    | true=>rfl
    | false=>have:=(aH6_ hh).1 k hk;rw [hkp] at this;cases this)) (fun j x hj=>by rw [hrn];exact ahj_ hj) (fun j id hj=>by rw [hrn];exact abr_ hpost.nodup hj)
  have hbx:∀ r u,(r,u)∈(v2_ (x3_ k2.ct sg.rs).1.a bs).2→∃ j bx,(j,bx)∈zZ_ 0 sg.ps bs∧r=.x bx∧RelBox GG w' ρ bx u∧zf_ u=[]:=by
   cases hp:hasP sg with
   | false =>
    have hbs:bs=[]:=aIl_ (aH6_ hp).2 hA
    subst hbs
    intro r u hru
    simp [v2_] at hru
   | true =>
    refine (awr_ (hnone (by rw [hpl,hp])) hA hpost.box hρ2 fun j bx hj=>?_).2
    have hlt:=(w2.rel.lab _ _ (hx j bx hj)).2
    exact ⟨(hbl j bx hj).1,by show GG.ω (G2.β bx)=_;rw [hold _ hlt];exact hx j bx hj⟩
  have hi0:k2.ct.i=ct.i:=by rw [i2,i1]
  have hki:k'.ct.i=(zH_ k2.ct ks).1.i:=by rw [← hk];show (x3_ k2.ct sg.rs).1.i=_;rw [f1]
  have hW:k'.w=(dstW d o (adr_ (x3_ k2.ct sg.rs).2.1)++((zH_ k2.ct ks).2.2++(v2_ (x3_ k2.ct sg.rs).1.a bs).2))++k2.w:=by
   rw [← hk]
   show (_++((x3_ k2.ct sg.rs).2.2++_))++_=_
   rw [f2];rfl
  have hN:∀ i,ct.i≤i→i < k'.ct.i→¬ M i:=hM
  have hK:Keep (xz_ (dstW d o (adr_ (x3_ k2.ct sg.rs).2.1)++((zH_ k2.ct ks).2.2++(v2_ (x3_ k2.ct sg.rs).1.a bs).2))) (fun i=>ct.i≤i∧i < k'.ct.i) G2 w GG w':=by
   refine ⟨hpost.size,fun b hb h0=>⟨by rw [Gh.q_same (hold b hb)];exact h0,(hpost.free b hb (hcω b h0)).2⟩,fun b hb h0=>by rw [hold b hb];exact h0,fun b l hb hl=>?_,fun i hi=>⟨rfl,?_⟩⟩
   ·have hlt:=(w2.rel.lab b l hb).2
    refine ⟨by rw [hold b hlt];exact hb,?_⟩
    cases hcb:vP_ pl G2 (zZ_ 0 sg.ps bs) b with
    | none=>exact (hpost.free b hlt hcb).2
    | some l' =>
     rcases (hst.lab b l' hcb).2 with rfl | ⟨j,rfl,hj⟩
     ·exact (hpost.frn b hcb).2
     ·exfalso
      obtain ⟨bx,h1,rfl⟩:=aby_ hj
      rw [hx j bx h1] at hb
      cases hb
      refine hl ?_
      show St.look _ (Res.x bx)≠none
      rw [zC_,zC_]
      intro e
      have e1:=(Option.or_eq_none_iff.1 (Option.or_eq_none_iff.1 e).2).2
      exact am2_ (aac_ h1) e1
   ·intro p _
    refine congrFun (?_:(match xP_ rn i with | some (some id)=>G'.H id | some none=>fun _=>.slice none 0 0 | none=>G2.H i)=G2.H i) p
    cases hro:xP_ rn i with
    | none=>rfl
    | some x =>
     have hmem:=jD_ hro
     rw [hrn] at hmem
     exact absurd ⟨by rw [← hi0];exact (jz_ hmem).1,by rw [hki];exact r5 i x hmem⟩ hi
  rw [hW]
  refine ⟨GG,jA_ h w2 (fun r=>zC_ _ _ r) hK (fun i hi=>hN i hi.1 hi.2) (fun i hi=>.inl hi) (fun n hdn=>jr_ hdn) hpost.so ?_,vI_ _ _ _⟩
  have hown:∀ r u,(r,u)∈(zH_ k2.ct ks).2.2→∃ j,r=.o j∧ct.i≤j∧j < k'.ct.i∧RelObj GG w' ρ j u∧zf_ u=[]:=by
   intro r u hru
   obtain ⟨j,g1,g2,g3,g4⟩:=r6 r u hru
   exact ⟨j,g1,by rw [← hi0];exact g2,by rw [hki];exact g3,g4⟩
  have hmb:∀ j bx,(j,bx)∈zZ_ 0 sg.ps bs→M bx:=fun j bx hj=>(w2.rel.lab _ _ (hx j bx hj)).1
  have cases2:∀ r u,St.look ((zH_ k2.ct ks).2.2++(v2_ (x3_ k2.ct sg.rs).1.a bs).2) r=some u→(r,u)∈(zH_ k2.ct ks).2.2∨(r,u)∈(v2_ (x3_ k2.ct sg.rs).1.a bs).2 :=
   fun r u hl=>List.mem_append.1 (agr_ hl)
  refine ⟨fun e n u he hl=>?_,fun b u hl=>?_,fun i u hl=>?_,fun r u hl i hi=>?_,fun i hi=>?_,fun b l hb=>?_⟩
  ·rcases zV_ hl with ⟨n',hn',e1,rfl⟩ | hl
   ·cases e1
    rw [hn',qy_ (hn _ hn')]
    exact hret GG w' k2.ct (htp GG w' k2.ct r1)
   ·rcases cases2 _ _ hl with hm | hm
    ·obtain ⟨j,e1,_⟩:=hown _ _ hm;cases e1
    ·obtain ⟨j,bx,_,e1,_⟩:=hbx _ _ hm;cases e1
  ·rcases zV_ hl with ⟨n',hn',e1,rfl⟩ | hl
   ·cases e1
   ·rcases cases2 _ _ hl with hm | hm
    ·obtain ⟨j,e1,_⟩:=hown _ _ hm;cases e1
    ·obtain ⟨j,bx,_,e1,e2,_⟩:=hbx _ _ hm;cases e1;exact e2
  ·rcases zV_ hl with ⟨n',hn',e1,rfl⟩ | hl
   ·cases e1
   ·rcases cases2 _ _ hl with hm | hm
    ·obtain ⟨j,e1,_,_,e2,_⟩:=hown _ _ hm;cases e1;exact e2
    ·obtain ⟨j,bx,_,e1,_⟩:=hbx _ _ hm;cases e1
  ·rcases zV_ hl with ⟨n',hn',e1,rfl⟩ | hl
   ·have:=aNv_ _ i hi
    rw [aop_] at this
    have:=r4 i this
    exact .inr ⟨by omega,by rw [hki];exact this.2⟩
   ·rcases cases2 _ _ hl with hm | hm
    ·obtain ⟨j,_,_,_,_,e2⟩:=hown _ _ hm;rw [e2] at hi;cases hi
    ·obtain ⟨j,bx,_,_,_,e2⟩:=hbx _ _ hm;rw [e2] at hi;cases hi
  ·have:∀ r:Res,(r=.x i∨r=.o i)→St.look (dstW d o (adr_ (x3_ k2.ct sg.rs).2.1)++((zH_ k2.ct ks).2.2++(v2_ (x3_ k2.ct sg.rs).1.a bs).2)) r≠none→Mn M ct.i k'.ct.i i:=by
    intro r hr hl
    obtain ⟨u,hu⟩:=Option.ne_none_iff_exists'.1 hl
    rcases zV_ hu with ⟨n',hn',e1,rfl⟩ | hl
    ·rcases hr with rfl | rfl <;> cases e1
    ·rcases cases2 _ _ hl with hm | hm
     ·obtain ⟨j,e1,g1,g2,_⟩:=hown _ _ hm
      rcases hr with rfl | rfl
      ·cases e1
      ·cases e1;exact .inr ⟨g1,g2⟩
     ·obtain ⟨j,bx,hj,e1,_⟩:=hbx _ _ hm
      rcases hr with rfl | rfl
      ·cases e1;exact .inl (hmb j _ hj)
      ·cases e1
   rcases hi with hi | hi
   ·exact this _ (.inl rfl) hi
   ·exact this _ (.inr rfl) hi
  ·by_cases hlt:b < w.heap.size
   ·rw [hold b hlt] at hb
    have:=w2.rel.lab b l hb
    exact ⟨.inl this.1,by have:=hpost.size;omega⟩
   ·rw [hnewb b hlt] at hb
    cases hgb:G'.ω b with
    | none=>rw [hgb] at hb;cases hb
    | some l' =>
     rw [hgb] at hb
     cases l' with
     | f=>cases hb
     | x i=>cases hb
     | o i p =>
      simp only [Option.map_eq_some_iff] at hb
      obtain ⟨j,hj,rfl⟩:=hb
      have hmem:=jV_ hj
      rw [hrn] at hmem
      exact ⟨.inr ⟨by rw [← hi0];exact (jz_ hmem).1,by rw [hki];exact r5 j _ hmem⟩,hpost.lab b _ hgb⟩
structure Env (P:Program) (cx:Cx) (S:Nat→Sem1):Prop where
 tys:TyAll P cx
 fns:∀ g sg,cx.sg g=some sg→FnIn P g∧anr_ P sg g (S g)
 into:∀ g fn,cx.fn g=some fn→P.funcs[g]?=some fn∧FnIn P g
theorem Goal.quiet {W:St} (h:Goal P M B d up ρ a w s o W Q∧k'.ct.i=ct.i):Goal P (Mn M ct.i k'.ct.i) B d up ρ a w s o W Q:=h.1.mono fun i hi=>.inl hi
theorem aNx_ (E:Env P cx S) (h:Rel M B d up s ρ G a w) (hn:∀ n,o.dst=some n→n < a.tmps.size)
  (hk:zU_ cx fid rid d o oi ⟨s.only R,[],ct,[]⟩=some k') (hd:k'.Done S ρ) (hM:∀ i,ct.i≤i→i < k'.ct.i→¬ M i):Goal P (Mn M ct.i k'.ct.i) B d up ρ a w s o k'.w Q:=by
 have hw:=WOk.start h R ct
 cases hop:o.op with
 | move x=>exact Goal.quiet (aA2_ h hn (.inl hop) hk)
 | assign x=>exact Goal.quiet (aA2_ h hn (.inr hop) hk)
 | alloc t=>exact aJq_ E.tys h hn hop hk hM
 | box t x=>exact aO9_ E.tys h hn hop hk hM
 | build t ps=>exact Goal.quiet (aKv_ E.tys h hn hop hk)
 | buildSlice t n ps=>exact ar9_ E.tys h hn hop hk hd hM
 | makeSlice t x y=>exact awg_ E.tys h hn hop hk hd hM
 | load t x =>
  simp only [zU_,hop,oB_,oI_] at hk
  obtain ⟨⟨k1,v⟩,hv,hk⟩:=hk
  split at hv
  ·rename_i r hT
   cases hfz:cx.fz fid rid oi with
   | false=>rw [hfz] at hT;cases hT
   | true=>rw [hfz] at hT;cases hv;exact aKl_ E.tys h hn hop hT hk hd hM
  ·exact Goal.quiet (aMz_ E.tys h hn hop ⟨k1,v,hv,hk⟩ hd)
 | store t x y =>
  simp only [zU_,hop,oB_,oI_] at hk
  obtain ⟨k1,hst,hk⟩:=hk
  split at hst
  ·rename_i k2 hD
   cases hst
   cases hfz:cx.fz fid rid oi with
   | true=>rw [hfz] at hD;cases hD
   | false=>rw [hfz] at hD;exact Goal.quiet (aG0_ E.tys h hn hop ⟨k1,hD,hk⟩ hd)
  ·exact Goal.quiet (aLf_ E.tys h hn hop ⟨k1,hst,hk⟩ hd)
 | nilCheck x=>exact Goal.quiet (aO8_ h hn hop hk)
 | binOp op t x y yt =>
  have hk0:=hk
  simp only [zU_,hop] at hk
  split at hk
  ·rename_i c e hcx hcy;exact Goal.quiet (aK1_ E.tys h hn hop hcx hcy hk0 hd)
  ·rename_i es bs hcx hcy;exact Goal.quiet (aO6_ E.tys h hn hop hcx hcy hk0 hd)
  ·cases hk
 | unOp op t x=>exact Goal.quiet (aM7_ h hn hop hk hd)
 | slice t x lo hi mx =>
  cases hT:(bif mx.isSome then none else aji_ cx ⟨s.only R,[],ct,[]⟩ t (opnd d (Wk.get ⟨s.only R,[],ct,[]⟩) x) (lo.map (opnd d (Wk.get ⟨s.only R,[],ct,[]⟩))) (hi.map (opnd d (Wk.get ⟨s.only R,[],ct,[]⟩)))) with
  | none=>exact Goal.quiet (aLe_ E.tys h hn hop hT hk hd)
  | some kv =>
   refine aGg_ E.tys h hn hop hT ?_ hd hM
   simp only [zU_,hop] at hk
   rw [hT] at hk
   exact Option.some.inj hk
 | fieldAddr t x f=>exact Goal.quiet (aJh_ E.tys h hn hop hk)
 | indexAddr t x y=>exact Goal.quiet (aKw_ E.tys h hn hop hk hd)
 | index t x y =>
  simp only [zU_,hop,oB_] at hk
  obtain ⟨ti,hti,⟨k1,y1⟩,h1,⟨k2,y2⟩,h2,hk⟩:=hk
  cases hc:Nat.beq ti.kd 2 with
  | false=>simp [hc] at hk
  | true =>
   simp only [hc,cond_true,oI_] at hk
   have hk2:putW d o (k2.em .idx [y1,y2]).1 (.v false [.p (k2.em .idx [y1,y2]).2])=k':=hk
   subst hk2
   exact Goal.quiet (aOi_ h hn hop E.tys hti (nB_ hc) hw h1 h2 hd)
 | extract x i=>exact Goal.quiet (aDn_ h hn hop hk)
 | makeFunc f first caps=>exact Goal.quiet (ayf_ h hn hop hk)
 | call c =>
  have hk0:=hk
  simp only [zU_,hop] at hk
  split at hk
  ·rename_i x hc hargs
   simp only [oB_] at hk
   obtain ⟨ti,hti,⟨k1,y⟩,h1,hk⟩:=hk
   cases h3:Nat.beq ti.kd 3 with
   | true =>
    simp only [h3,cond_true,oI_] at hk
    have hk2:putW d o (k1.em .len [y]).1 (.v false [.p (k1.em .len [y]).2])=k':=hk
    subst hk2
    exact Goal.quiet (aM2_ h hn E.tys hop hc hargs (Option.bind_eq_some_iff.2 hti) (nB_ h3) hw h1 hd)
   | false =>
    simp only [h3,cond_false] at hk
    cases h2:Nat.beq ti.kd 2 with
    | false=>simp [h2] at hk
    | true =>
     simp only [h2,cond_true,oI_] at hk
     have hk2:putW d o (k1.em .lens [y]).1 (.v false [.p (k1.em .lens [y]).2])=k':=hk
     subst hk2
     exact Goal.quiet (aNo_ h hn E.tys hop hc hargs (Option.bind_eq_some_iff.2 hti) (nB_ h2) hw h1 hd)
  ·rename_i x y hc hargs
   simp only [oB_,oI_] at hk
   obtain ⟨⟨k1,y1⟩,h1,⟨k2,y2⟩,h2,hk⟩:=hk
   have hk2:putW d o (k2.em .mx [y1,y2]).1 (.v false [.p (k2.em .mx [y1,y2]).2])=k':=hk
   subst hk2
   exact Goal.quiet (aLm_ h hn hop hargs (.inl ⟨hc,rfl⟩) hw h1 h2 hd)
  ·rename_i x y hc hargs
   simp only [oB_,oI_] at hk
   obtain ⟨⟨k1,y1⟩,h1,⟨k2,y2⟩,h2,hk⟩:=hk
   have hk2:putW d o (k2.em .mn [y1,y2]).1 (.v false [.p (k2.em .mn [y1,y2]).2])=k':=hk
   subst hk2
   exact Goal.quiet (aLm_ h hn hop hargs (.inr ⟨hc,rfl⟩) hw h1 h2 hd)
  ·rename_i x y hc hargs
   exact aH8_ E.tys h hn hop hc hargs hk0 hd hM
  ·rename_i x0 xs0 g hc
   simp only [oB_] at hk
   obtain ⟨sg,hsg,_⟩:=hk
   obtain ⟨q1,q2⟩:=E.fns g sg hsg
   exact aL7_ h hn hop hc q1 hsg q2 hk0 hd hM
  ·cases hk
 | convert t1 t2 x=>exact Goal.quiet (aEl_ E.tys h hn hop hk hd)
 | _=>simp [zU_,hop] at hk
end
theorem Lf.evo_ext {ρ e:List T} {x:Lf} {t:T} (h:x.evo ρ=some t):x.evo (ρ++e)=some t:=by
 cases x with
 | k v=>exact h
 | a n=>simp only [Lf.evo] at h ⊢;rw [List.getElem?_append_left (List.getElem?_eq_some_iff.1 h).1];exact h
 | e=>exact h
theorem adn_ {ρ e:List T} {x:Lf} {i:Nat} (h:xg_ ρ x=some i):xg_ (ρ++e) x=some i:=by
 unfold xg_ at h ⊢
 cases hx:x.evo ρ with
 | none=>simp [hx] at h
 | some t=>rw [Lf.evo_ext hx];rw [hx] at h;exact h
theorem aut_ {ρ e:List T}:∀ {q:Pth} {p:List (Nat × Nat)},pthO ρ q=some p→pthO (ρ++e) q=some p
 | [],p,h=>h
 | (x,w,j) :: q,p,h=>by
  simp only [pthO,oB_,oI_] at h ⊢
  obtain ⟨i,h1,p',h2,rfl⟩:=h
  exact ⟨i,adn_ h1,p',aut_ h2,rfl⟩
theorem at1_ {ρ e:List T} {id:Nat} {q:Pth} {p:List (Nat × Nat)} (h:pthI ρ id q=some p):pthI (ρ++e) id q=some p:=by
 cases q with
 | nil=>exact h
 | cons x q =>
  simp only [pthI] at h ⊢
  split at h
  ·rename_i hi;rw [if_pos hi];exact aut_ h
  ·cases h
section
variable {G:Gh} {w:World} {ρ e:List T}
theorem RelCe.ext {c:Ce} {v:Value} (h:RelCe G w ρ c v):RelCe G w (ρ++e) c v:=by
 cases c with
 | p x=>obtain ⟨t,h1,h2⟩:=h;exact ⟨t,Lf.evo_ext h1,h2⟩
 | o id q=>obtain ⟨p,h1,h2⟩:=h;exact ⟨p,at1_ h1,h2⟩
 | n=>exact h
 | d=>exact h
theorem RelCs.ext:∀ {cs:List Ce} {vs:List Value},RelCs G w ρ cs vs→RelCs G w (ρ++e) cs vs
 | [],[],_=>trivial
 | _ :: _,_ :: _,h=>⟨h.1.ext,RelCs.ext h.2⟩
 | [],_ :: _,h=>h.elim
 | _ :: _,[],h=>h.elim
theorem RelVal.ext {ag:Bool} {cs:List Ce} {c:Value} (h:RelVal G w ρ ag cs c):RelVal G w (ρ++e) ag cs c:=by
 cases ag with
 | true=>obtain ⟨vs,h1,h2⟩:=h;exact ⟨vs,h1,h2.ext⟩
 | false=>obtain ⟨x,rfl,h2,h3⟩:=h;exact ⟨x,rfl,h2.ext,h3⟩
theorem RelTp.ext:∀ {cs:List (Bool × List Ce)} {vs:List Value},RelTp G w ρ cs vs→RelTp G w (ρ++e) cs vs
 | [],[],_=>trivial
 | _ :: _,_ :: _,h=>⟨h.1.ext,RelTp.ext h.2⟩
 | [],_ :: _,h=>h.elim
 | _ :: _,[],h=>h.elim
theorem RelSV.ext {v:SV} {c:Value} (h:RelSV G w ρ v c):RelSV G w (ρ++e) v c:=by
 cases v with
 | un=>trivial
 | v ag cs=>exact RelVal.ext h
 | pt b off=>exact h
 | ep id q ix wd off=>obtain ⟨p,b,n,cap,i,h1,h2,h3,h4⟩:=h;exact ⟨p,b,n,cap,i,at1_ h1,h2,adn_ h3,h4⟩
 | fp s ix wd off=>obtain ⟨xs,i,r,b,base,h1,h2,h3⟩:=h;exact ⟨xs,i,r,b,base,Lf.evo_ext h1,adn_ h2,h3⟩
 | tp vs=>obtain ⟨us,h1,h2⟩:=h;exact ⟨us,h1,h2.ext⟩
 | cl f bs=>exact h
 | ob dp x=>exact h
 | fz pv x=>exact h
 | tk x m=>exact h
 | fl x=>exact h
 | fr x=>exact h
theorem RelBox.ext {b:Nat} {v:SV} (h:RelBox G w ρ b v):RelBox G w (ρ++e) b v:=by
 cases v with
 | v ag cs=>obtain ⟨h1,arr,elem,h2,h3⟩:=h;exact ⟨h1,arr,elem,h2,h3.ext⟩
 | _=>exact h
theorem RelObj.ext {b:Nat} {v:SV} (h:RelObj G w ρ b v):RelObj G w (ρ++e) b v:=by
 cases v with
 | ob dp x=>obtain ⟨t,h1,h2⟩:=h;exact ⟨t,Lf.evo_ext h1,h2⟩
 | fz pv x =>
  obtain ⟨t,h1,h2,h3⟩:=h
  refine ⟨t,Lf.evo_ext h1,h2,?_⟩
  cases pv with
  | z=>trivial
  | w tk x0 lo=>obtain ⟨g0,F,n,zs,g1,g2,g3⟩:=h3;exact ⟨g0,F,n,zs,Lf.evo_ext g1,adn_ g2,g3⟩
 | tk x m=>obtain ⟨h0,F,u,h1,h2,h3⟩:=h;exact ⟨h0,F,u,Lf.evo_ext h1,Lf.evo_ext h2,h3⟩
 | fl x=>obtain ⟨h0,t,h1,h2⟩:=h;exact ⟨h0,t,Lf.evo_ext h1,h2⟩
 | fr x=>obtain ⟨h0,t,h1,h2⟩:=h;exact ⟨h0,t,Lf.evo_ext h1,h2⟩
 | _=>exact h
theorem Rel.ext {M:Nat→Prop} {B:Base} {d:Nat} {up:Nat→Nat→Value} {s:St} {a:Act} (h:Rel M B d up s ρ G a w):Rel M B d up s (ρ++e) G a w :=
 ⟨fun x n hx=>(h.tm x n hx).ext,fun b=>(h.bx b).ext,fun i=>(h.ob i).ext,h.ment,h.key,h.lab,h.dn,h.base,h.bt⟩
end
theorem Lf.ev_ext {ρ e:List T} {x:Lf} (h:x.bel ρ.length=true):x.ev (ρ++e)=x.ev ρ:=by
 cases x with
 | k v=>rfl
 | a n =>
  have hlt:n < ρ.length:=Nat.lt_of_succ_le (by simpa [Lf.bel,Nat.blt] using h)
  simp only [Lf.ev,List.getD_eq_getElem?_getD]
  rw [List.getElem?_append_left hlt]
 | e=>rfl
theorem aBn_ {ρ e:List T} {xs:List Lf} (h:xs.all (Lf.bel ρ.length)=true):xs.map (Lf.ev (ρ++e))=xs.map (Lf.ev ρ) :=
 List.map_congr_left fun x hx=>Lf.ev_ext (List.all_eq_true.1 h x hx)
theorem ajr_ (ts:List T):∀ (m i:Nat),(vj_ ts i m).length=m
 | 0,_=>rfl
 | m+1,i=>by simp [vj_,ajr_ ts m]
theorem arc_ (ts:List T):∀ (m i j:Nat),j < m→(vj_ ts i m)[j]?=some (ts.getD (i+j) T.dft)
 | 0,_,j,h=>by omega
 | m+1,i,0,_=>by simp [vj_]
 | m+1,i,j+1,h=>by
  simp only [vj_,List.getElem?_cons_succ]
  rw [arc_ ts m (i+1) j (by omega)]
  congr 2;omega
section
variable {S:Nat→Sem1} {R:Nat} {K:List Sem1} {out:List T}
theorem af3_:∀ {is:List Ins} {p:PL} {ρ:List T},aa5_ (ρ.length+isz is) is=true→(wrap is p).den S R K ρ=some out →
  ∃ ts,ts.length=isz is∧p.den S R K (ρ++ts)=some out∧∀ e,Done S (ρ++ts++e) (ρ.length+isz is) is
 | [],p,ρ,_,h=>⟨[],rfl,by rw [List.append_nil];exact h,fun _=>trivial⟩
 | .pr q xs :: is,p,ρ,hok,h=>by
  simp only [aa5_,isz,bA_] at hok
  have e0:ρ.length+(isz is+1) - 1=ρ.length+isz is:=by omega
  rw [e0] at hok
  obtain ⟨ts,h1,h2,h3⟩:=af3_ (is:=is) hok.2 (show (wrap is (.ins (.pr q xs) p)).den S R K ρ=some out from h)
  simp only [PL.den,oB_] at h2
  obtain ⟨t,h4,h5⟩:=h2
  have hl:(ρ++ts).length=ρ.length+isz is:=by simp [h1]
  refine ⟨ts++[t],by simp [isz,h1],by simpa using h5,fun e=>⟨ρ.length+isz is,t,rfl,?_,?_,?_⟩⟩
  ·have:=aBn_ (ρ:=ρ++ts) (e:=t :: e) (xs:=xs) (by rw [hl];exact hok.1.2)
   simp only [List.append_assoc,List.cons_append,List.nil_append] at this ⊢
   rw [this]
   simpa using h4
  ·rw [← hl];simp
  ·have:=h3 (t :: e)
   simpa using this
 | .cl g xs m :: is,p,ρ,hok,h=>by
  simp only [aa5_,isz,bA_] at hok
  have e0:ρ.length+(isz is+m) - m=ρ.length+isz is:=by omega
  rw [e0] at hok
  obtain ⟨ts,h1,h2,h3⟩:=af3_ (is:=is) hok.2 (show (wrap is (.ins (.cl g xs m) p)).den S R K ρ=some out from h)
  simp only [PL.den,oB_] at h2
  obtain ⟨us,h4,h5⟩:=h2
  have hl:(ρ++ts).length=ρ.length+isz is:=by simp [h1]
  refine ⟨ts++vj_ us 0 m,by simp [isz,h1,ajr_],by simpa using h5,fun e=>⟨ρ.length+isz is,us,by simp only [isz];omega,?_,fun i hi=>?_,?_⟩⟩
  ·have:=aBn_ (ρ:=ρ++ts) (e:=vj_ us 0 m++e) (xs:=xs) (by rw [hl];exact hok.1.2)
   simp only [List.append_assoc] at this ⊢
   rw [this]
   simpa using h4
  ·rw [← hl,List.append_assoc,List.append_assoc,← List.append_assoc ρ ts,List.getElem?_append_right (by omega),show (ρ++ts).length+i - (ρ++ts).length=i by omega,
    List.getElem?_append_left (by rw [ajr_];exact hi),arc_ _ _ _ _ hi]
   simp
  ·have:=h3 (vj_ us 0 m++e)
   simpa using this
end
def FactsOk (fs:yT_) (ρ:List T):Prop:=∀ n b,fact fs n=some b→ρ[n]?=some (.c (.bool b))
theorem FactsOk.ext {fs:yT_} {ρ e:List T} (h:FactsOk fs ρ):FactsOk fs (ρ++e):=fun n b hn=>by
 have:=h n b hn
 rw [List.getElem?_append_left (List.getElem?_eq_some_iff.1 this).1];exact this
theorem FactsOk.cons {fs:yT_} {ρ:List T} {n:Nat} {b:Bool} (h:FactsOk fs ρ) (hn:ρ[n]?=some (.c (.bool b))):FactsOk ((n,b) :: fs) ρ:=by
 intro m c hm
 simp only [fact] at hm
 cases hb:Nat.beq n m with
 | true=>simp [hb] at hm;subst hm;rw [← nB_ hb];exact hn
 | false=>simp [hb] at hm;exact h m c hm
section
variable {G:Gh} {w:World} {ρ:List T} {fs:yT_}
theorem an4_ {sv:SV} {c:Value} {b:Bool} (h:xH_ fs sv=.is b) (hr:RelSV G w ρ sv c) (hf:FactsOk fs ρ):c=.bool b:=by
 unfold xH_ at h
 split at h
 ·cases h
 ·split at h
  ·rename_i b' hb
   cases h
   unfold ava_ at hb
   split at hb
   ·cases hb
    obtain ⟨e,he,hce,_⟩:=hr
    cases he
    obtain ⟨t,h1,h2⟩:=hce
    simp only [Lf.evo,scV,cond_true,oI_] at h1
    subst h1
    exact h2.scalar.1
   ·cases hb
  ·rename_i n hb
   unfold ava_ at hb
   split at hb
   ·cases hb
    split at h
    ·rename_i b' hfn
     cases h
     obtain ⟨e,he,hce,_⟩:=hr
     cases he
     obtain ⟨t,h1,h2⟩:=hce
     have:=hf n b hfn
     simp only [Lf.evo] at h1
     rw [this] at h1
     cases h1
     exact h2.scalar.1
    ·cases h
   ·cases hb
  ·cases h
theorem aMj_ {sv:SV} {c:Value} (h:xH_ fs sv=.nil) (hr:RelSV G w ρ sv c):∃ us,c=.tuple us:=by
 unfold xH_ at h
 split at h
 ·obtain ⟨us,h1,_⟩:=hr;exact ⟨_,h1⟩
 ·split at h
  ·cases h
  ·split at h <;> cases h
  ·cases h
end
section
variable {M:Nat→Prop} {B:Base} {d:Nat} {up:Nat→Nat→Value} {ρ:List T} {G:Gh} {a:Act} {w:World} {S:Nat→Sem1} {P:Program}
variable {cx:Cx} {fid rid oi:Nat} {s:St} {R:Nat} {ct:Ct} {k':Wk} {o:Oper} {Q:Exit→Act→World→Prop} {ops:Array Oper} {nt:Nat} {fs:yT_}
def gw (d:Nat) (ops:Array Oper) (o:Oper) (fs:yT_) (s:St):Option Bool :=
 match o.guard with
 | none=>some true
 | some (j,want)=>match (ops[j]?).bind (·.dst) with
  | none=>none
  | some g=>match xH_ fs (s.get (.t d g)) with
   | .nil=>some false
   | .is b=>some (b == want)
   | _=>none
theorem amg_ {s':St} (h:∀ r∈uU_ d ops o,s'.get r=s.get r):gw d ops o fs s'=gw d ops o fs s:=by
 unfold gw uU_ at *
 cases hg:o.guard with
 | none=>rfl
 | some jw =>
  obtain ⟨j,want⟩:=jw
  simp only [hg] at h
  cases hb:(ops[j]?).bind (·.dst) with
  | none=>simp only [hb]
  | some g =>
   simp only [hb] at h ⊢
   simp only [h (.t d g) (by simp)]
theorem atb_ {x:Bool} (h:gw d ops o fs s=some x) (hr:Rel M B d up s ρ G a w) (hf:FactsOk fs ρ):Region.wanted o (yielded ops a.tmps)=x:=by
 unfold gw at h
 unfold Region.wanted
 cases hg:o.guard with
 | none=>simp [hg] at h;simp [h]
 | some jw =>
  obtain ⟨j,want⟩:=jw
  simp only [hg] at h
  cases hb:(ops[j]?).bind (·.dst) with
  | none=>simp [hb] at h
  | some g =>
   simp only [hb] at h
   have ht:=hr.tm d g (Nat.le_refl _)
   simp only [tmv,if_true] at ht
   cases hd:xH_ fs (s.get (.t d g)) with
   | nil =>
    simp only [hd,oI_] at h
    subst h
    obtain ⟨us,hu⟩:=aMj_ hd ht
    simp only [yielded,hb,Option.bind_some]
    rw [Array.getD_eq_getD_getElem?] at hu
    cases hx:a.tmps[g]? with
    | none=>simp
    | some v=>rw [hx] at hu;simp only [Option.getD_some] at hu;subst hu;simp
   | is b =>
    simp only [hd,oI_] at h
    have hu:=an4_ hd ht hf
    simp only [yielded,hb,Option.bind_some]
    rw [Array.getD_eq_getD_getElem?] at hu
    cases hx:a.tmps[g]? with
    | none=>rw [hx] at hu;simp [undef] at hu
    | some v =>
     rw [hx] at hu;simp only [Option.getD_some] at hu;subst hu
     rw [← h]
     cases b <;> cases want <;> rfl
   | ask n=>simp [hd] at h
   | no=>simp [hd] at h
theorem akm_ {sv:SV} {n:Nat} {b:Bool} (h:xH_ fs sv=.ask n):xH_ ((n,b) :: fs) sv=.is b:=by
 unfold xH_ at h ⊢
 split at h
 ·cases h
 ·split at h
  ·cases h
  ·rename_i m hm
   split at h
   ·cases h
   ·cases h
    simp only [fact]
    simp
  ·cases h
def ae2_ (P:Program) (ops:Array Oper) (Q:Exit→Act→World→Prop) (B:Base) (d:Nat) (up:Nat→Nat→Value) (nt:Nat) (ρ:List T) (i:Nat) (rd:List Res) (wr:St) (lo hi:Nat) (sI:St):Prop :=
 ∀ (M:Nat→Prop) (s:St) (G:Gh) (a:Act) (w:World) (Kn:Act→World→Prop),(∀ r∈rd,s.get r=sI.get r)→Rel M B d up s ρ G a w→a.tmps.size=nt→(∀ j,lo≤j→j < hi→¬ M j) →
  (∀ G' a' w',Rel (Mn M lo hi) B d up (s.sets wr) ρ G' a' w'→a'.tmps.size=nt→Kn a' w')→wpOp P ops Q i Kn a w
theorem aom_ {s':St}:∀ {R:List Res},(∀ r∈R,s'.get r=s.get r)→s'.only R=s.only R
 | [],_=>rfl
 | r :: R,h=>by simp only [St.only];rw [h r (by simp),aom_ fun r hr=>h r (by simp [hr])]
theorem aHl_ {i:Nat} {R:List Res} (E:Env P cx S) (ho:ops[i]?=some o) (hn:∀ n,o.dst=some n→n < nt) (hg:gw d ops o fs s=some true) (hf:FactsOk fs ρ)
  (hk:zU_ cx fid rid d o oi ⟨s.only R,[],ct,[]⟩=some k') (hd:k'.Done S ρ):ae2_ P ops Q B d up nt ρ i (uU_ d ops o++R) k'.w ct.i k'.ct.i s:=by
 intro M s' G a w Kn hag hr hnt hM hK
 have hg':=amg_ (fs:=fs) (o:=o) (ops:=ops) (d:=d) (s:=s) (s':=s') fun r hr=>hag r (List.mem_append_left _ hr)
 have hw:=atb_ (hg'.trans hg) hr hf
 have hk':zU_ cx fid rid d o oi ⟨s'.only R,[],ct,[]⟩=some k':=by rw [aom_ fun r hr=>hag r (List.mem_append_right _ hr)];exact hk
 have:=aNx_ (Q:=Q) E hr (fun n h=>by rw [hnt];exact hn n h) hk' hd hM
 unfold wpOp
 simp only [ho,hw,if_true]
 exact .inl (Oper.wp_mono (fun a' w' ⟨G',h1,h2⟩=>hK G' a' w' h1 (h2.trans hnt)) this)
theorem aud_ (s:St) (r:Res) (v:SV):s.sets [(r,v)]=s.set r v:=rfl
theorem aG8_ {i lo:Nat} (ho:ops[i]?=some o) (hn:∀ n,o.dst=some n→n < nt) (hg:gw d ops o fs s=some false) (hf:FactsOk fs ρ) :
  ae2_ P ops Q B d up nt ρ i (uU_ d ops o) (dstW d o (.tp [])) lo lo s:=by
 intro M s' G a w Kn hag hr hnt hM hK
 have hg':=amg_ (fs:=fs) (o:=o) (ops:=ops) (d:=d) (s:=s) (s':=s') hag
 have hw:=atb_ (hg'.trans hg) hr hf
 unfold wpOp
 simp only [ho,hw,bF_,if_false]
 have hM':∀ i,M i→Mn M lo lo i:=fun i h=>.inl h
 cases hd:o.dst with
 | none =>
  refine hK G _ w ?_ (by simpa [Act.put] using hnt)
  simp only [dstW,hd,Act.put]
  exact hr.mono hM'
 | some n =>
  refine hK G _ w ?_ (by rw [vI_];exact hnt)
  simp only [dstW,hd,aud_]
  exact (hr.put1 (x:=.tp []) (v:=undef) (by rw [hnt];exact hn n hd) ⟨[],rfl,trivial⟩ (fun i hi=>by simp [zf_,vk_] at hi)).mono hM'
theorem aJ1_ {x:Operand} {t:Tmp} (h:x∈o.op.operands) (hx:x=.tmp t):t∈ab3_ o:=by
 subst hx
 exact List.mem_filterMap.2 ⟨.tmp t,by simpa using h,rfl⟩
theorem ahw_ {s':St} {x:Operand} (hx:x∈o.op.operands) (h:∀ r∈(ab3_ o).map (Res.t d),s'.get r=s.get r):opnd d s'.get x=opnd d s.get x:=by
 cases x with
 | tmp t=>exact h _ (List.mem_map.2 ⟨t,aJ1_ hx rfl,rfl⟩)
 | _=>rfl
theorem aH5_ {i lo n:Nat} {b:Bool} {va vb:SV} (ho:ops[i]?=some o) (hdst:o.dst=some n) (hn:n < nt) (hg:gw d ops o fs s=some true) (hf:FactsOk fs ρ) (hp:ach_ d s o fs=some (.is b,va,vb)) :
  ae2_ P ops Q B d up nt ρ i (uU_ d ops o++(ab3_ o).map (Res.t d)) [(.t d n,bif b then va else vb)] lo lo s:=by
 intro M s' G a w Kn hag hr hnt hM hK
 have hg':=amg_ (fs:=fs) (o:=o) (ops:=ops) (d:=d) (s:=s) (s':=s') fun r hr=>hag r (List.mem_append_left _ hr)
 have hw:=atb_ (hg'.trans hg) hr hf
 have hM':∀ i,M i→Mn M lo lo i:=fun i h=>.inl h
 unfold ach_ at hp
 split at hp
 ·rename_i c x y hop
  simp only [oI_,Prod.mk.injEq] at hp
  obtain ⟨h1,rfl,rfl⟩:=hp
  have hT:∀ r∈(ab3_ o).map (Res.t d),s'.get r=s.get r:=fun r hr=>hag r (List.mem_append_right _ hr)
  have oc:=ahw_ (s':=s') (s:=s) (d:=d) (o:=o) (x:=c) (by rw [hop];simp [Op.operands]) hT
  have ox:=ahw_ (s':=s') (s:=s) (d:=d) (o:=o) (x:=x) (by rw [hop];simp [Op.operands]) hT
  have oy:=ahw_ (s':=s') (s:=s) (d:=d) (o:=o) (x:=y) (by rw [hop];simp [Op.operands]) hT
  have hc:=an4_ (by rw [oc];exact h1) (v6_ hr c).1 hf
  unfold wpOp
  simp only [ho,hw,if_true]
  left
  have hexec:(execOp a.eval o).run P w=.ok (.value (if b then a.eval x else a.eval y)) w:=by
   unfold execOp
   simp only [hop,hc,asBool,pure_bind]
   cases b <;> rfl
  simp only [Oper.wp,hexec,Oper.upon,hdst]
  refine hK G _ w ?_ (by rw [vI_];exact hnt)
  rw [aud_]
  refine (hr.put1 (by rw [hnt];exact hn) ?_ ?_).mono hM'
  ·cases b
   ·simp only [cond_false,bF_,if_false];rw [← oy];exact (v6_ hr y).1
   ·simp only [cond_true,if_true];rw [← ox];exact (v6_ hr x).1
  ·cases b
   ·simp only [cond_false];rw [← oy];exact (v6_ hr y).2
   ·simp only [cond_true];rw [← ox];exact (v6_ hr x).2
 ·cases hp
end
section
variable {B:Base} {d:Nat} {up:Nat→Nat→Value} {S:Nat→Sem1} {P:Program} {cx:Cx} {into:Into} {fid rid:Nat} {R:Nat} {o:Oper} {Q:Exit→Act→World→Prop} {ops:Array Oper} {nt:Nat} {draw:Bool}
variable {K:List Sem1} {out:List T} {i:Nat} {rc:Rec}
def WayA (P:Program) (S:Nat→Sem1) (R:Nat) (K:List Sem1) (out:List T) (ops:Array Oper) (Q:Exit→Act→World→Prop) (B:Base) (d:Nat) (up:Nat→Nat→Value) (nt:Nat) (i:Nat) (rc:Rec)
  (tr:List Tr) (lv:Nat) (s:St) (ct:Ct) (ρ:List T):Prop :=
 ∃ rd wr ct' e fs' p',(∀ e',ae2_ P ops Q B d up nt (ρ++e++e') i rd wr ct.i ct'.i s)∧ct.i≤ct'.i∧rc (tr++[⟨rd,wr.map (·.1)⟩]) lv (s.sets wr) ct' fs'=some p'∧p'.den S R K (ρ++e)=some out ∧
  (ρ++e).length=ct'.a∧FactsOk fs' (ρ++e)
def WayB (S:Nat→Sem1) (R:Nat) (K:List Sem1) (out:List T) (cx:Cx) (into:Into) (ops:Array Oper) (d:Nat) (o:Oper) (rc:Rec) (tr:List Tr) (lv:Nat) (s:St) (ct:Ct) (ρ:List T):Prop :=
 ∃ g vs fs' p',gw d ops o fs' s=some true∧aou_ cx d s o=some (g,vs)∧FactsOk fs' ρ∧into (d+1) g vs lv s ct fs' (as1_ d o rc tr)=some p'∧p'.den S R K ρ=some out
theorem aps_ {n:Nat} {x y:PL} {ρ:List T} (h:(PL.ite n x y).den S R K ρ=some out):∃ b,ρ[n]?=some (.c (.bool b))∧(bif b then x.den S R K ρ else y.den S R K ρ)=some out:=by
 simp only [PL.den] at h
 cases hn:ρ[n]? with
 | none=>rw [List.getD_eq_getElem?_getD,hn] at h;simp [T.dft] at h
 | some t =>
  rw [List.getD_eq_getElem?_getD,hn] at h
  simp only [Option.getD_some] at h
  split at h
  ·exact ⟨_,rfl,h⟩
  ·cases h
theorem at2_ {tr:List Tr} {lv:Nat} {s:St} {ct:Ct} {fs:yT_} {ρ:List T} {p:PL} (ho:ops[i]?=some o) (hn:∀ n,o.dst=some n→n < nt) (hg:gw d ops o fs s=some false)
  (h:as7_ d ops o rc tr lv s ct fs=some p) (hp:p.den S R K ρ=some out) (hl:ρ.length=ct.a) (hf:FactsOk fs ρ):WayA P S R K out ops Q B d up nt i rc tr lv s ct ρ:=by
 refine ⟨uU_ d ops o,dstW d o (.tp []),ct,[],fs,p,fun e'=>aG8_ ho hn hg (by rw [List.append_nil];exact hf.ext),Nat.le_refl _,?_,by rw [List.append_nil];exact hp,by rw [List.append_nil];exact hl,by rw [List.append_nil];exact hf⟩
 unfold as7_ at h
 unfold dstW
 cases hd:o.dst with
 | none=>rw [hd] at h;exact h
 | some n=>rw [hd] at h;exact h
theorem agd_ {tr:List Tr} {lv:Nat} {s:St} {ct:Ct} {fs:yT_} {ρ:List T} {p:PL} {b:Bool} {va vb:SV} (ho:ops[i]?=some o) (hn:∀ n,o.dst=some n→n < nt) (hg:gw d ops o fs s=some true)
  (hpk:ach_ d s o fs=some (.is b,va,vb)) (h:akc_ d ops o rc tr lv s ct fs (bif b then va else vb)=some p) (hp:p.den S R K ρ=some out) (hl:ρ.length=ct.a) (hf:FactsOk fs ρ):WayA P S R K out ops Q B d up nt i rc tr lv s ct ρ:=by
 unfold akc_ at h
 cases hd:o.dst with
 | none=>rw [hd] at h;cases h
 | some n =>
  rw [hd] at h
  exact ⟨uU_ d ops o++(ab3_ o).map (Res.t d),[(.t d n,bif b then va else vb)],ct,[],fs,p,fun e'=>aH5_ ho hd (hn n hd) hg (by rw [List.append_nil];exact hf.ext) hpk,Nat.le_refl _,h,
   by rw [List.append_nil];exact hp,by rw [List.append_nil];exact hl,by rw [List.append_nil];exact hf⟩
theorem aBh_ {fs:yT_} {s:St} {x:Bool} {m:Nat} {b:Bool} (h:gw d ops o fs s=some x) (hm:fact fs m=none):gw d ops o ((m,b) :: fs) s=some x:=by
 unfold gw at h ⊢
 cases hg:o.guard with
 | none=>rw [hg] at h;exact h
 | some jw =>
  obtain ⟨j,want⟩:=jw
  simp only [hg] at h ⊢
  cases hb:(ops[j]?).bind (·.dst) with
  | none=>simp only [hb] at h;cases h
  | some g =>
   simp only [hb] at h ⊢
   have key:∀ dc,xH_ fs (s.get (.t d g))=dc→(∀ n,dc≠.ask n)→dc≠.no→xH_ ((m,b) :: fs) (s.get (.t d g))=dc:=by
    intro dc hdc h1 h2
    unfold xH_ at hdc ⊢
    split at hdc
    ·exact hdc
    ·split at hdc
     ·exact hdc
     ·rename_i n hn
      split at hdc
      ·rename_i b' hb'
       have hne:Nat.beq m n=false:=by
        cases hbq:Nat.beq m n with
        | false=>rfl
        | true=>rw [nB_ hbq,hb'] at hm;cases hm
       simp only [fact,hne,cond_false,hb']
       exact hdc
      ·exact absurd hdc.symm (h1 _)
     ·exact absurd hdc.symm h2
   cases hdc:xH_ fs (s.get (.t d g)) with
   | nil=>rw [key _ hdc (by simp) (by simp)];rw [hdc] at h;exact h
   | is b'=>rw [key _ hdc (by simp) (by simp)];rw [hdc] at h;exact h
   | ask n=>rw [hdc] at h;cases h
   | no=>rw [hdc] at h;cases h
theorem av2_ {sv:SV} {fs:yT_} {n:Nat} (h:xH_ fs sv=.ask n):fact fs n=none:=by
 unfold xH_ at h
 split at h
 ·cases h
 ·split at h
  ·cases h
  ·split at h
   ·cases h
   ·rename_i hn;cases h;exact hn
  ·cases h
theorem aIw_ {tr:List Tr} {lv:Nat} {s:St} {ct:Ct} {fs:yT_} {ρ:List T} {p:PL} (E:Env P cx S) (ho:ops[i]?=some o) (hn:∀ n,o.dst=some n→n < nt) (hg:gw d ops o fs s=some true)
  (h:doO cx into fid rid d ops draw o i rc tr lv s ct fs=some p) (hp:p.den S R K ρ=some out) (hl:ρ.length=ct.a) (hf:FactsOk fs ρ) :
  WayA P S R K out ops Q B d up nt i rc tr lv s ct ρ∨(draw=false∧WayB S R K out cx into ops d o rc tr lv s ct ρ):=by
 unfold doO at h
 split at h
 ·rename_i dc va vb hpk
  left
  split at h
  ·exact agd_ (b:=true) ho hn hg hpk h hp hl hf
  ·exact agd_ (b:=false) ho hn hg hpk h hp hl hf
  ·rename_i n
   simp only [oB_,oI_] at h
   obtain ⟨x,hx,y,hy,rfl⟩:=h
   obtain ⟨b,hb,hp⟩:=aps_ hp
   have hpk':∀ b,ach_ d s o ((n,b) :: fs)=some (.is b,va,vb):=by
    intro b
    unfold ach_ at hpk ⊢
    split at hpk
    ·simp only [oI_,Prod.mk.injEq] at hpk ⊢
     exact ⟨akm_ hpk.1,hpk.2⟩
    ·cases hpk
   have hnone:fact fs n=none:=by
    unfold ach_ at hpk
    split at hpk
    ·simp only [oI_,Prod.mk.injEq] at hpk;exact av2_ hpk.1
    ·cases hpk
   cases b with
   | true=>exact agd_ (b:=true) ho hn (aBh_ hg hnone) (hpk' true) hx hp hl (hf.cons hb)
   | false=>exact agd_ (b:=false) ho hn (aBh_ hg hnone) (hpk' false) hy hp hl (hf.cons hb)
  ·cases h;cases hp
  ·cases h;cases hp
 ·split at h
  ·rename_i g vs hi
   cases hd:draw with
   | true=>rw [hd] at h;simp only [cond_true,oI_] at h;subst h;cases hp
   | false =>
    rw [hd] at h
    simp only [cond_false] at h
    exact .inr ⟨rfl,g,vs,fs,p,hg,hi,hf,h,hp⟩
  ·left
   split at h
   ·cases h;cases hp
   ·rename_i k hk
    cases hc:(Nat.beq k.ct.a (ct.a+isz k.is) && Nat.ble ct.i k.ct.i && aa5_ k.ct.a k.is) with
    | false=>rw [hc] at h;cases h
    | true =>
     rw [hc] at h
     simp only [cond_true,oB_,oI_] at h
     obtain ⟨p',hp',rfl⟩:=h
     simp only [bA_] at hc
     obtain ⟨⟨c1,c2⟩,c3⟩:=hc
     have c1:=nB_ c1
     obtain ⟨ts,w1,w2,w3⟩:=af3_ (S:=S) (R:=R) (K:=K) (out:=out) (ρ:=ρ) (by rw [hl,← c1];exact c3) hp
     refine ⟨uU_ d ops o++as5_ d s o,k.w,k.ct,ts,fs,p',fun e'=>aHl_ E ho hn hg (by rw [List.append_assoc];exact hf.ext) hk ?_,Nat.le_of_ble_eq_true c2,hp',w2,by rw [List.length_append,w1,hl,c1],hf.ext⟩
     show Done S (ρ++ts++e') k.ct.a k.is
     rw [c1,← hl]
     exact w3 e'
theorem aA8_ {tr:List Tr} {lv:Nat} {s:St} {ct:Ct} {fs:yT_} {ρ:List T} {p:PL} (E:Env P cx S) (ho:ops[i]?=some o) (hn:∀ n,o.dst=some n→n < nt)
  (h:oneO cx into fid rid d ops draw o i rc tr lv s ct fs=some p) (hp:p.den S R K ρ=some out) (hl:ρ.length=ct.a) (hf:FactsOk fs ρ) :
  WayA P S R K out ops Q B d up nt i rc tr lv s ct ρ∨(draw=false∧WayB S R K out cx into ops d o rc tr lv s ct ρ):=by
 unfold oneO at h
 simp only at h
 cases hgd:o.guard with
 | none =>
  rw [hgd] at h
  exact aIw_ E ho hn (by unfold gw;rw [hgd]) h hp hl hf
 | some jw =>
  obtain ⟨j,want⟩:=jw
  rw [hgd] at h
  simp only at h
  cases hb:(ops[j]?).bind (·.dst) with
  | none=>rw [hb] at h;cases h
  | some g =>
   rw [hb] at h
   simp only at h
   have hgw:∀ fs x,(match xH_ fs (s.get (.t d g)) with | .nil=>some false | .is b=>some (b == want) | _=>none)=some x→gw d ops o fs s=some x:=by
    intro fs x hx
    unfold gw
    simp only [hgd,hb]
    exact hx
   have both:∀ (fs:yT_) (b:Bool) (p:PL),xH_ fs (s.get (.t d g))=.is b→(bif b == want then doO cx into fid rid d ops draw o i rc tr lv s ct fs else as7_ d ops o rc tr lv s ct fs)=some p→p.den S R K ρ=some out→FactsOk fs ρ →
     WayA P S R K out ops Q B d up nt i rc tr lv s ct ρ∨(draw=false∧WayB S R K out cx into ops d o rc tr lv s ct ρ):=by
    intro fs b p hd h hp hf
    have hg:=hgw fs (b == want) (by rw [hd])
    cases hbw:(b == want) with
    | true=>rw [hbw] at h hg;exact aIw_ E ho hn hg h hp hl hf
    | false=>rw [hbw] at h hg;exact .inl (at2_ ho hn hg h hp hl hf)
   cases hd:xH_ fs (s.get (.t d g)) with
   | nil =>
    rw [hd] at h
    exact .inl (at2_ ho hn (hgw fs false (by rw [hd])) h hp hl hf)
   | is b=>rw [hd] at h;exact both fs b p hd h hp hf
   | ask n =>
    rw [hd] at h
    simp only [oB_,oI_] at h
    obtain ⟨x,hx,y,hy,rfl⟩:=h
    obtain ⟨b,hb',hp⟩:=aps_ hp
    cases b with
    | true=>exact both _ true x (akm_ hd) hx hp (hf.cons hb')
    | false=>exact both _ false y (akm_ hd) hy hp (hf.cons hb')
   | no=>rw [hd] at h;cases h;cases hp
end
structure Fr where
 d:Nat
 up:Nat→Nat→Value
 nt:Nat
structure Zb where
 K:List Sem1
 ρ:List T
def At (S:Nat→Sem1) (R:Nat) (out:List T) (B:Base) (f:Fr) (K0:Zb) (X:Gh→World→List T→Prop) (p:PL) (lv:Nat) (s:St) (ct:Ct) (fs:yT_) (a:Act) (w:World):Prop :=
 ∃ K ρ G,p.den S R K ρ=some out∧K.length=lv∧(∃ pre,K=pre++K0.K)∧(∃ e,ρ=K0.ρ++e)∧ρ.length=ct.a∧FactsOk fs ρ∧Rel (fun i=>i < ct.i) B f.d f.up s ρ G a w∧a.tmps.size=f.nt∧X G w ρ
def XT:Gh→World→List T→Prop:=fun _ _ _=>True
def Snd (S:Nat→Sem1) (R:Nat) (out:List T) (B:Base) (f:Fr) (K0:Zb) (k:KP) (Ψ:Act→World→Prop):Prop :=
 ∀ lv s ct fs p a w,k lv s ct fs=some p→At S R out B f K0 XT p lv s ct fs a w→Ψ a w
def tupV (us:List Value):Value:=if h:us.length=1 then us[0] else .tuple us.toArray
def anh_ (P:Program) (S:Nat→Sem1) (R:Nat) (out:List T) (B:Base) (into:Into):Prop :=
 ∀ (f:Fr) (g:Nat) (vs:List SV) (lv:Nat) (s:St) (ct:Ct) (fs:yT_) (kk:List SV→KP) (p:PL) (K0:Zb) (a:Act) (w:World) (args:List Value) (Ψ:Value→World→Prop),
  into (f.d+1) g vs lv s ct fs kk=some p→At S R out B f K0 (fun G w ρ=>RelSVs G w ρ vs args∧∀ v∈vs,∀ i∈zf_ v,i < ct.i) p lv s ct fs a w →
   (∀ rs lv' s' ct' fs' p' w' us,kk rs lv' s' ct' fs'=some p'→At S R out B f K0 (fun G w ρ=>RelSVs G w ρ rs us∧∀ v∈rs,∀ i∈zf_ v,i < ct'.i) p' lv' s' ct' fs' a w'→Ψ (tupV us) w') →
   FnIn P g∧Calls P g args.toArray w fun e w'=>∃ v,e=.returned v∧Ψ v w'
section
variable {B:Base} {f:Fr} {S:Nat→Sem1} {P:Program} {cx:Cx} {into:Into} {fid rid:Nat} {R:Nat} {Q:Exit→Act→World→Prop} {ops:Array Oper} {out:List T} {K0:Zb}
theorem aPa_ {lo hi:Nat} (h:lo≤hi) (i:Nat) (hm:Mn (fun i=>i < lo) lo hi i):i < hi:=by
 rcases hm with h1 | h1
 ·omega
 ·exact h1.2
theorem RelSVs.length {G:Gh} {w:World} {ρ:List T}:∀ {vs:List SV} {us:List Value},RelSVs G w ρ vs us→vs.length=us.length
 | [],[],_=>rfl
 | _ :: _,_ :: _,h=>by simp [RelSVs.length h.2]
 | [],_ :: _,h=>h.elim
 | _ :: _,[],h=>h.elim
theorem aqt_ {G:Gh} {w:World} {ρ:List T}:∀ {rs:List SV} {vs:List (Bool × List Ce)} {us:List Value},wF_ rs=some vs→RelSVs G w ρ rs us→RelTp G w ρ vs us∧vk_ vs=rs.flatMap zf_
 | [],vs,us,h,hr=>by
  simp [wF_] at h
  subst h
  cases us with
  | nil=>exact ⟨trivial,rfl⟩
  | cons _ _=>exact hr.elim
 | .v ag cs :: rs,vs,us,h,hr=>by
  simp only [wF_,oB_,oI_] at h
  obtain ⟨l,hl,rfl⟩:=h
  cases us with
  | nil=>exact hr.elim
  | cons u us =>
   obtain ⟨g1,g2⟩:=aqt_ hl hr.2
   exact ⟨⟨hr.1,g1⟩,by simp [vk_,zf_,g2]⟩
 | .un :: rs,vs,us,h,hr=>by simp [wF_] at h
 | .pt _ _ :: rs,vs,us,h,hr=>by simp [wF_] at h
 | .ep _ _ _ _ _ :: rs,vs,us,h,hr=>by simp [wF_] at h
 | .fp _ _ _ _ :: rs,vs,us,h,hr=>by simp [wF_] at h
 | .tp _ :: rs,vs,us,h,hr=>by simp [wF_] at h
 | .cl _ _ :: rs,vs,us,h,hr=>by simp [wF_] at h
 | .ob _ _ :: rs,vs,us,h,hr=>by simp [wF_] at h
 | .fz _ _ :: rs,vs,us,h,hr=>by simp [wF_] at h
 | .tk _ _ :: rs,vs,us,h,hr=>by simp [wF_] at h
 | .fl _ :: rs,vs,us,h,hr=>by simp [wF_] at h
 | .fr _ :: rs,vs,us,h,hr=>by simp [wF_] at h
theorem aNr_ {o:Oper} {rc:Rec} {tr:List Tr} {rs:List SV} {lv:Nat} {s:St} {ct:Ct} {fs:yT_} {p:PL} {a:Act} {w:World} {us:List Value} {Ψ:Act→World→Prop} (hn:∀ n,o.dst=some n→n < f.nt)
  (h:as1_ f.d o rc tr rs lv s ct fs=some p) (hat:At S R out B f K0 (fun G w ρ=>RelSVs G w ρ rs us∧∀ v∈rs,∀ i∈zf_ v,i < ct.i) p lv s ct fs a w)
  (hrc:∀ tr lv s ct fs p a w,rc tr lv s ct fs=some p→At S R out B f K0 XT p lv s ct fs a w→Ψ a w):Ψ (a.put o.dst (tupV us)) w:=by
 obtain ⟨K,ρ,G,h1,h2,h3,h0,h4,h5,h6,h7,h8,h9⟩:=hat
 unfold as1_ at h
 have key:∀ (n:Nat) (v:SV),o.dst=some n→rc tr lv (s.set (.t f.d n) v) ct fs=some p→RelSV G w ρ v (tupV us)→(∀ i∈zf_ v,i < ct.i)→Ψ (a.put o.dst (tupV us)) w:=by
  intro n v hd hk hr hm
  rw [hd]
  exact hrc tr lv _ ct fs p _ w hk ⟨K,ρ,G,h1,h2,h3,h0,h4,h5,h6.put1 (by rw [h7];exact hn n hd) hr hm,by rw [vI_];exact h7,trivial⟩
 have hlen:=h8.length
 split at h
 ·rename_i hd
  rw [hd]
  exact hrc tr lv s ct fs p _ w h ⟨K,ρ,G,h1,h2,h3,h0,h4,h5,by simpa [Act.put] using h6,by simpa [Act.put] using h7,trivial⟩
 ·rename_i n v hd
  match us,h8 with
  | [u],h8=>exact key n v hd h h8.1 (h9 v (by simp))
 ·rename_i n hd
  exact key n .un hd h trivial (fun i hi=>by simp [zf_] at hi)
 ·rename_i rs' _ _ n hd hne1 hne2
  simp only [oB_] at h
  obtain ⟨vs,hvs,h⟩:=h
  obtain ⟨g1,g2⟩:=aqt_ hvs h8
  refine key n (.tp vs) hd h ⟨us,?_,g1⟩ fun i hi=>?_
  ·unfold tupV
   rw [dif_neg]
   intro he
   rw [← hlen] at he
   match rs',hne1,he with
   | [v],hne1,_=>exact hne1 v rfl
  ·rw [show zf_ (.tp vs)=vk_ vs from rfl,g2] at hi
   obtain ⟨v,hv,hi⟩:=List.mem_flatMap.1 hi
   exact h9 v hv i hi
theorem aH2_ {d:Nat} {up:Nat→Nat→Value} {M:Nat→Prop} {s:St} {ρ:List T} {G:Gh} {a:Act} {w:World} {o:Oper} {g:Nat} {vs:List SV} (hr:Rel M B d up s ρ G a w) (hi:aou_ cx d s o=some (g,vs)) :
  ∃ args:List Value,(FnIn P g→(execOp a.eval o).run P w=.ok (.enter g args.toArray) w)∧RelSVs G w ρ vs args∧∀ v∈vs,∀ i∈zf_ v,M i:=by
 unfold aou_ at hi
 split at hi
 ·rename_i c hop
  split at hi
  ·rename_i x hcal
   split at hi
   ·rename_i g' bs hx
    split at hi
    ·cases hi
    ·simp only [oI_,Prod.mk.injEq] at hi
     obtain ⟨rfl,rfl⟩:=hi
     obtain ⟨h1,h2⟩:=v6_ hr x
     rw [hx] at h1 h2
     have hv:a.eval x=.func (.func g') #[] (bs.map fun b=>Value.pointer (some ⟨G.β b,0,none⟩)).toArray:=h1
     refine ⟨c.args.toList.map a.eval++bs.map fun b=>Value.pointer (some ⟨G.β b,0,none⟩),?_,?_,?_⟩
     ·intro hg
      unfold execOp
      rw [hop]
      show Sem.run P (do let d ← resolve a.eval c o.type;invoke d.target d.args) w=_
      simp only [resolve,hcal,hv,Deferred.ofValue,pure_bind,invoke]
      rw [ajt_ hg]
      congr 2
      exact Array.ext' (by simp)
     ·have k1:∀ l:List Operand,RelSVs G w ρ (l.map (opnd d s.get)++bs.map fun b=>SV.pt b 0) (l.map a.eval++bs.map fun b=>Value.pointer (some ⟨G.β b,0,none⟩)):=by
       intro l
       induction l with
       | nil =>
        clear hx h1 h2 hv
        induction bs with
        | nil=>trivial
        | cons b bs ih=>exact ⟨rfl,ih⟩
       | cons y l ih=>exact ⟨(v6_ hr y).1,ih⟩
      exact k1 _
     ·intro v hv i hi
      rcases List.mem_append.1 hv with hv | hv
      ·obtain ⟨y,_,rfl⟩:=List.mem_map.1 hv
       exact (v6_ hr y).2 i hi
      ·obtain ⟨b,hb,rfl⟩:=List.mem_map.1 hv
       simp [zf_] at hi
       subst hi
       exact h2 _ (by simpa [zf_] using hb)
   ·cases hi
  ·cases hi
 ·cases hi
theorem aGv_ (E:Env P cx S) (hI:anh_ P S R out B into) (hn:∀ o∈ops.toList,∀ n,o.dst=some n→n < f.nt) {fin:List Tr→KP} (hfin:∀ tr,Snd S R out B f K0 (fin tr) (Q .normal)) :
  ∀ (os:List Oper) (i:Nat) (tr:List Tr) (lv:Nat) (s:St) (ct:Ct) (fs:yT_) (p:PL) (a:Act) (w:World),ops.toList.drop i=os→k0_ cx into fid rid f.d ops false fin os i tr lv s ct fs=some p →
   At S R out B f K0 XT p lv s ct fs a w→wpOps P ops Q (List.range' i os.length) a w
 | [],i,tr,lv,s,ct,fs,p,a,w,_,h,hat=>hfin tr lv s ct fs p a w h hat
 | o :: os,i,tr,lv,s,ct,fs,p,a,w,hos,h,hat=>by
  have ho:ops[i]?=some o:=by
   rw [← Array.getElem?_toList]
   have:=congrArg (·[0]?) hos
   simpa using this
  have hn':=hn o (List.mem_of_mem_drop (i:=i) (by rw [hos];simp))
  have hos':ops.toList.drop (i+1)=os:=by
   rw [← List.drop_drop,hos];rfl
  have ih:=aGv_ E hI hn hfin os (i+1)
  obtain ⟨K,ρ,G,h1,h2,h3,⟨e0,h0⟩,h4,h5,h6,h7,_⟩:=hat
  rw [List.length_cons,List.range'_succ,wpOps_cons]
  rcases aA8_ (P:=P) (Q:=Q) (B:=B) (up:=f.up) (nt:=f.nt) (R:=R) (K:=K) (out:=out) E ho hn' (show oneO cx into fid rid f.d ops false o i (k0_ cx into fid rid f.d ops false fin os (i+1)) tr lv s ct fs=some p from h) h1 h4 h5 with
   ⟨rd,wr,ct',e,fs',p',hit,hle,hrc,hp',hl',hf'⟩ | ⟨_,g,vs,fs',p',hg,hi,hf',hin,hp'⟩
  ·have hit0:=hit []
   rw [List.append_nil] at hit0
   refine hit0 (fun i=>i < ct.i) s G a w _ (fun r hr=>rfl) h6.ext h7 (fun j h1 h2=>by omega) fun G' a' w' hr' hs'=>?_
   exact ih _ lv _ ct' fs' p' a' w' hos' hrc ⟨K,ρ++e,G',hp',h2,h3,⟨e0++e,by rw [h0,List.append_assoc]⟩,hl',hf',hr'.mono (aPa_ hle),hs',trivial⟩
  ·have hQ:=fun (args:List Value) hr=>hI f g vs lv s ct fs' _ p' K0 a w args (fun v w'=>wpOps P ops Q (List.range' (i+1) os.length) (a.put o.dst v) w') hin ⟨K,ρ,G,hp',h2,h3,⟨e0,h0⟩,h4,hf',h6,h7,hr⟩ fun rs lv' s' ct' fs2 p2 w' us hk hat2 =>
    aNr_ (Ψ:=fun a w'=>wpOps P ops Q (List.range' (i+1) os.length) a w') hn' hk hat2 fun tr lv s ct fs p a w hk hat3=>ih tr lv s ct fs p a w hos' hk hat3
   obtain ⟨args,hx,hr,hm⟩:=aH2_ (P:=P) h6 hi
   have hw:=atb_ hg h6 hf'
   unfold wpOp
   simp only [ho,hw,if_true]
   left
   simp only [Oper.wp]
   obtain ⟨hg0,hcall⟩:=hQ args ⟨hr,hm⟩
   rw [hx hg0]
   refine hcall.mono ?_
   rintro e w' ⟨v,rfl,hv⟩
   exact hv
end
structure Item where
 rd:List Res
 wr:St
 lo:Nat
 hi:Nat
def Item.tr (it:Item):Tr:=⟨it.rd,it.wr.map (·.1)⟩
inductive Chain (Ok:Nat→Item→St→Prop):Nat→St→Nat→List Item→St→Nat→Prop
 | nil {i:Nat} {s:St} {c:Nat}:Chain Ok i s c [] s c
 | cons {i:Nat} {s s':St} {c c':Nat} {it:Item} {its:List Item} (h:Ok i it s) (hl:it.lo=c) (hh:c≤it.hi) (ht:Chain Ok (i+1) (s.sets it.wr) it.hi its s' c'):Chain Ok i s c (it :: its) s' c'
def stD (D:Nat→Bool):Nat→St→List Item→St
 | _,s,[]=>s
 | i,s,it :: its=>stD D (i+1) (bif D i then s.sets it.wr else s) its
theorem Chain.mono {Ok Ok':Nat→Item→St→Prop} (h:∀ i it s,Ok i it s→Ok' i it s) {i:Nat} {s s':St} {c c':Nat} {its:List Item} (hc:Chain Ok i s c its s' c'):Chain Ok' i s c its s' c':=by
 induction hc with
 | nil=>exact .nil
 | cons h1 h2 h3 _ ih=>exact .cons (h _ _ _ h1) h2 h3 ih
theorem Chain.le {Ok:Nat→Item→St→Prop} {i:Nat} {s s':St} {c c':Nat} {its:List Item} (hc:Chain Ok i s c its s' c'):c≤c':=by
 induction hc with
 | nil=>exact Nat.le_refl _
 | cons _ _ h3 _ ih=>exact Nat.le_trans h3 ih
theorem Chain.get {Ok:Nat→Item→St→Prop} {i:Nat} {s s':St} {c c':Nat} {its:List Item} (hc:Chain Ok i s c its s' c'):∀ (m:Nat) (it:Item),its[m]?=some it →
  Ok (i+m) it (stD (fun _=>true) i s (its.take m))∧c≤it.lo∧it.lo≤it.hi∧it.hi≤c':=by
 induction hc with
 | nil=>intro m it h;simp at h
 | @cons i s s' c c' it0 its h1 h2 h3 h4 ih =>
  intro m it hm
  cases m with
  | zero =>
   simp at hm
   subst hm
   exact ⟨h1,by omega,by omega,h4.le⟩
  | succ m =>
   obtain ⟨g1,g2,g3,g4⟩:=ih m it (by simpa using hm)
   refine ⟨?_,by omega,g3,g4⟩
   rw [show i+(m+1)=i+1+m by omega]
   simpa [stD] using g1
theorem Chain.apart {Ok:Nat→Item→St→Prop} {i:Nat} {s s':St} {c c':Nat} {its:List Item} (hc:Chain Ok i s c its s' c'):∀ (m m':Nat) (it it':Item),its[m]?=some it→its[m']?=some it'→m < m'→it.hi≤it'.lo:=by
 induction hc with
 | nil=>intro m m' it it' h;simp at h
 | @cons i s s' c c' it0 its h1 h2 h3 h4 ih =>
  intro m m' it it' hm hm' hlt
  cases m' with
  | zero=>omega
  | succ m' =>
   cases m with
   | zero =>
    simp at hm
    subst hm
    exact (h4.get m' it' (by simpa using hm')).2.1
   | succ m=>exact ih m m' it it' (by simpa using hm) (by simpa using hm') (by omega)
theorem Chain.last {Ok:Nat→Item→St→Prop} {i:Nat} {s s':St} {c c':Nat} {its:List Item} (hc:Chain Ok i s c its s' c') {D:Nat→Bool}:(∀ m,m < its.length→D (i+m)=true)→stD D i s its=s':=by
 induction hc with
 | nil=>intro _;rfl
 | @cons i s s' c c' it0 its h1 h2 h3 h4 ih =>
  intro h
  simp only [stD]
  rw [show D i=true from h 0 (by simp)]
  exact ih fun m hm=>by rw [show i+1+m=i+(m+1) by omega];exact h (m+1) (by simpa using hm)
theorem ato_ {D:Nat→Bool}:∀ {its:List Item} {i:Nat} {s:St},(∀ m,m < its.length→D (i+m)=false)→stD D i s its=s
 | [],i,s,_=>rfl
 | it :: its,i,s,h=>by
  simp only [stD]
  rw [show D i=false from h 0 (by simp)]
  exact ato_ fun m hm=>by rw [show i+1+m=i+(m+1) by omega];exact h (m+1) (by simpa using hm)
theorem arj_ {D:Nat→Bool}:∀ {its:List Item} {i:Nat} {s s2:St},(∀ r,s.get r=s2.get r)→∀ r,(stD D i s its).get r=(stD D i s2 its).get r
 | [],i,s,s2,h,r=>h r
 | it :: its,i,s,s2,h,r=>by
  simp only [stD]
  refine arj_ (fun r=>?_) r
  cases D i with
  | true=>simp only [cond_true];rw [St.get_sets,St.get_sets,h]
  | false=>exact h r
theorem aro_ {D D':Nat→Bool}:∀ {its:List Item} {i:Nat} {s:St},(∀ m,m < its.length→D (i+m)=D' (i+m))→stD D i s its=stD D' i s its
 | [],i,s,_=>rfl
 | it :: its,i,s,h=>by
  simp only [stD]
  rw [show D i=D' i from h 0 (by simp)]
  exact aro_ fun m hm=>by rw [show i+1+m=i+(m+1) by omega];exact h (m+1) (by simpa using hm)
theorem at8_ {D:Nat→Bool} {r:Res}:∀ {its:List Item} {i:Nat} {s:St},(∀ m it,its[m]?=some it→D (i+m)=true→it.wr.look r=none)→(stD D i s its).get r=s.get r
 | [],i,s,_=>rfl
 | it :: its,i,s,h=>by
  simp only [stD]
  rw [at8_ fun m it' hm hd=>h (m+1) it' (by simpa using hm) (by rw [show i+(m+1)=i+1+m by omega];exact hd)]
  cases hD:D i with
  | false=>rfl
  | true =>
   simp only [cond_true]
   rw [St.get_sets,h 0 it rfl (by simpa using hD)]
   rfl
theorem aw6_ {D:Nat→Bool} {W:St}:∀ {its:List Item} {i:Nat} {s:St},(∀ m it,its[m]?=some it→D (i+m)=true→∀ r,it.wr.look r=none∨W.look r=none) →
  ∀ r,((stD D i s its).sets W).get r=(stD D i (s.sets W) its).get r
 | [],i,s,_,r=>rfl
 | it :: its,i,s,h,r=>by
  simp only [stD]
  rw [aw6_ fun m it' hm hd=>h (m+1) it' (by simpa using hm) (by rw [show i+(m+1)=i+1+m by omega];exact hd)]
  refine arj_ (fun r=>?_) r
  cases hD:D i with
  | false=>rfl
  | true =>
   simp only [cond_true]
   rw [St.get_sets,St.get_sets,St.get_sets,St.get_sets]
   rcases h 0 it rfl (by simpa using hD) r with h1 | h1
   ·rw [h1];rfl
   ·rw [h1];rfl
def addD (D:Nat→Bool) (k:Nat):Nat→Bool:=fun j=>if j=k then true else D j
theorem aBt_ {D:Nat→Bool}:∀ {its:List Item} {i m:Nat} {s:St} {it:Item},its[m]?=some it→D (i+m)=false →
  (∀ m' it',its[m']?=some it'→m < m'→D (i+m')=true→∀ r,it'.wr.look r=none∨it.wr.look r=none)→∀ r,((stD D i s its).sets it.wr).get r=(stD (addD D (i+m)) i s its).get r
 | [],i,m,s,it,h,_,_,r=>by simp at h
 | it0 :: its,i,0,s,it,h,hd,hc,r=>by
  simp at h
  subst h
  simp only [stD,Nat.add_zero] at hd ⊢
  rw [hd,show addD D i i=true by simp [addD]]
  simp only [cond_false,cond_true]
  rw [aw6_ fun m it' hm hd'=>hc (m+1) it' (by simpa using hm) (by omega) (by rw [show i+(m+1)=i+1+m by omega];exact hd')]
  exact congrArg (fun x=>St.get x r) (aro_ fun m hm=>by
   have:¬ (i+1+m=i):=by omega
   simp [addD,this])
 | it0 :: its,i,m+1,s,it,h,hd,hc,r=>by
  simp only [stD]
  have e:addD D (i+(m+1)) i=D i:=by
   have:¬ (i=i+(m+1)):=by omega
   simp [addD]
  rw [e,show i+(m+1)=i+1+m by omega]
  exact aBt_ (by simpa using h) (by rw [show i+1+m=i+(m+1) by omega];exact hd) (fun m' it' hm hlt hd'=>hc (m'+1) it' (by simpa using hm) (by omega) (by rw [show i+(m'+1)=i+1+m' by omega];exact hd')) r
theorem auc_ {D:Nat→Bool} {r:Res}:∀ {its:List Item} {i m:Nat} {s s2:St},s.get r=s2.get r→m≤its.length→(∀ m' it',its[m']?=some it'→m' < m→D (i+m')=false→it'.wr.look r=none) →
  (∀ m' it',its[m']?=some it'→m≤m'→D (i+m')=true→it'.wr.look r=none)→(stD D i s its).get r=(stD (fun _=>true) i s2 (its.take m)).get r
 | its,i,0,s,s2,h,_,h1,h2=>by
  rw [List.take_zero]
  show _=s2.get r
  rw [at8_ fun m it hm hd=>h2 m it hm (by omega) hd,h]
 | [],i,m+1,s,s2,h,hl,_,_=>by simp at hl
 | it0 :: its,i,m+1,s,s2,h,hl,h1,h2=>by
  simp only [stD,List.take_succ_cons,cond_true]
  refine auc_ ?_ (by simpa using hl) (fun m' it' hm hlt hd=>h1 (m'+1) it' (by simpa using hm) (by omega) (by rw [show i+(m'+1)=i+1+m' by omega];exact hd))
   (fun m' it' hm hlt hd=>h2 (m'+1) it' (by simpa using hm) (by omega) (by rw [show i+(m'+1)=i+1+m' by omega];exact hd))
  cases hD:D i with
  | true=>simp only [cond_true];rw [St.get_sets,St.get_sets,h]
  | false =>
   simp only [cond_false]
   rw [St.get_sets,h1 0 it0 rfl (by omega) (by simpa using hD)]
   exact h
theorem alx_ {xs ys:List Res} (h:atc_ xs ys=false):∀ r,r∈xs→r∈ys→False:=by
 intro r h1 h2
 have h3:ys.any r.beq=false:=by have:=List.any_eq_false.1 h r h1;rw [Bool.not_eq_true] at this;exact this
 have:=List.any_eq_false.1 h3 r h2
 exact this (Res.beq_iff.2 rfl)
theorem ac1_ {W:St} {r:Res} (h:r ∉ W.map (·.1)):W.look r=none:=by
 cases hl:W.look r with
 | none=>rfl
 | some u=>exact absurd (List.mem_map.2 ⟨(r,u),agr_ hl,rfl⟩) h
theorem ag5_ {a b:Item} (h:kD_ a.tr b.tr=true):(∀ r∈b.rd,a.wr.look r=none)∧(∀ r,a.wr.look r=none∨b.wr.look r=none)∧(∀ r∈a.rd,b.wr.look r=none):=by
 simp only [kD_,bA_,Bool.not_eq_true'] at h
 obtain ⟨⟨h1,h2⟩,h3⟩:=h
 refine ⟨fun r hr=>ac1_ fun hm=>alx_ h1 r hm hr,fun r=>?_,fun r hr=>ac1_ fun hm=>alx_ h3 r hr hm⟩
 by_cases hm:r∈a.wr.map (·.1)
 ·exact .inr (ac1_ fun hm'=>alx_ h2 r hm hm')
 ·exact .inl (ac1_ hm)
theorem aqw_ {bj:Nat} {t:Tr}:∀ {us:List Tr} {i:Nat},as8_ bj t i us=true→∀ j u,us[j]?=some u→Nat.testBit bj (i+j)=true∨kD_ u t=true
 | [],i,_,j,u,h=>by simp at h
 | v :: us,i,h,j,u,hj=>by
  simp only [as8_,bA_,Bool.or_eq_true] at h
  cases j with
  | zero=>simp at hj;subst hj;exact h.1
  | succ j =>
   have:=aqw_ h.2 j u (by simpa using hj)
   rw [show i+1+j=i+(j+1) by omega] at this
   exact this
theorem aik_:∀ {ts:List Tr} {bs:List Nat} {done:List Tr},af2_ done ts bs=true→∀ (m u:Nat) (t tu:Tr) (b:Nat),ts[m]?=some t→bs[m]?=some b→u < done.length+m→(done++ts)[u]?=some tu →
  Nat.testBit b u=true∨kD_ tu t=true
 | [],bs,done,_,m,u,t,tu,b,h,_,_,_=>by simp at h
 | _ :: _,[],done,_,m,u,t,tu,b,_,h,_,_=>by simp at h
 | t0 :: ts,b0 :: bs,done,h,m,u,t,tu,b,hm,hb,hu,hg=>by
  simp only [af2_,bA_] at h
  cases m with
  | zero =>
   simp at hm hb
   subst hm hb
   have:=aqw_ h.1 u tu (by rw [List.getElem?_append_left (by omega)] at hg;exact hg)
   simpa using this
  | succ m =>
   exact aik_ h.2 m u t tu b (by simpa using hm) (by simpa using hb) (by simp;omega) (by simpa using hg)
def acl_ (n:Nat) (e:Edge):Bool:=Region.binds .any e && Nat.blt e.on n
theorem aph_ (acc:List Nat) (n:Nat):∀ (es:List Edge) (s u:Nat),Nat.testBit (es.foldl (fun s e=>bif acl_ n e then s ||| (2 ^ e.on) ||| (acc.getD e.on 0) else s) s) u=true →
  Nat.testBit s u=true∨∃ e∈es,acl_ n e=true∧(u=e.on∨Nat.testBit (acc.getD e.on 0) u=true)
 | [],s,u,h=>.inl h
 | e :: es,s,u,h=>by
  rw [List.foldl_cons] at h
  rcases aph_ acc n es _ u h with h1 | ⟨e',he',h1⟩
  ·cases hc:acl_ n e with
   | false=>rw [hc] at h1;exact .inl h1
   | true =>
    rw [hc] at h1
    simp only [cond_true,Nat.testBit_or,Bool.or_eq_true] at h1
    rcases h1 with (h1 | h1) | h1
    ·exact .inl h1
    ·rw [Nat.testBit_two_pow] at h1
     simp at h1
     exact .inr ⟨e,by simp,hc,.inl h1.symm⟩
    ·exact .inr ⟨e,by simp,hc,.inr h1⟩
  ·exact .inr ⟨e',by simp [he'],h1⟩
theorem ad3_:∀ (os:List Oper) (acc:List Nat) (j:Nat),j < acc.length→(xO_ acc os)[j]?=acc[j]?
 | [],acc,j,_=>rfl
 | o :: os,acc,j,h=>by
  simp only [xO_]
  rw [ad3_ os _ j (by simp;omega),List.getElem?_append_left h]
theorem ak8_:∀ (os:List Oper) (acc:List Nat),(xO_ acc os).length=acc.length+os.length
 | [],acc=>rfl
 | o :: os,acc=>by simp only [xO_];rw [ak8_];simp;omega
theorem aek_:∀ (os:List Oper) (acc:List Nat) (k b:Nat),acc.length≤k→(xO_ acc os)[k]?=some b→∃ o,os[k - acc.length]?=some o ∧
  ∀ u,Nat.testBit b u=true→∃ e∈o.after.toList,acl_ k e=true∧(u=e.on∨Nat.testBit ((xO_ acc os).getD e.on 0) u=true)
 | [],acc,k,b,hk,h=>by
  simp only [xO_] at h
  have:=(List.getElem?_eq_some_iff.1 h).1
  omega
 | o :: os,acc,k,b,hk,h=>by
  simp only [xO_] at h ⊢
  by_cases he:k=acc.length
  ·subst he
   rw [ad3_ os _ _ (by simp),List.getElem?_append_right (Nat.le_refl _)] at h
   simp only [Nat.sub_self,List.getElem?_cons_zero,oI_] at h
   refine ⟨o,by simp,fun u hu=>?_⟩
   rw [← h] at hu
   rcases aph_ acc acc.length o.after.toList 0 u hu with h1 | ⟨e,he,h1,h2⟩
   ·simp at h1
   ·refine ⟨e,he,h1,h2.imp_right fun h2=>?_⟩
    have hlt:e.on < acc.length:=by
     simp only [acl_,bA_] at h1
     exact Nat.lt_of_succ_le (by simpa [Nat.blt] using h1.2)
    rw [List.getD_eq_getElem?_getD,ad3_ os _ _ (by simp;omega),List.getElem?_append_left hlt,← List.getD_eq_getElem?_getD]
    exact h2
  ·obtain ⟨o',h1,h2⟩:=aek_ os _ k b (by simp;omega) h
   refine ⟨o',?_,h2⟩
   rw [← h1,show k - acc.length=(k - (acc.length+1))+1 by omega]
   simp
theorem aBr_:∀ {os:List Oper} {i:Nat},agm_ i os=true→∀ m o,os[m]?=some o→∀ e∈o.after.toList,Region.binds .any e=true→e.on < i+m
 | [],i,_,m,o,h,_,_,_=>by simp at h
 | o0 :: os,i,h,m,o,hm,e,he,hb=>by
  simp only [agm_,bA_] at h
  cases m with
  | zero =>
   simp at hm
   subst hm
   have:=List.all_eq_true.1 h.1 e he
   simp only [hb,Bool.not_true,Bool.false_or] at this
   exact Nat.lt_of_succ_le (by simpa [Nat.blt] using this)
  | succ m =>
   have:=aBr_ h.2 m o (by simpa using hm) e he hb
   omega
def ath_ (ops:Array Oper) (D:Nat→Bool):Prop:=∀ (j:Nat) (o:Oper),D j=true→ops[j]?=some o→∀ e∈o.after.toList,Region.binds .any e=true→D e.on=true
theorem axj_ {ops:Array Oper} {D:Nat→Bool} (hc:ath_ ops D):∀ (j b u:Nat),D j=true→(xO_ [] ops.toList)[j]?=some b→Nat.testBit b u=true→D u=true:=by
 intro j
 induction j using Nat.strongRecOn with
 | _ j ih =>
  intro b u hj hb hu
  obtain ⟨o,ho,h⟩:=aek_ ops.toList [] j b (by simp) hb
  obtain ⟨e,he,h1,h2⟩:=h u hu
  simp only [acl_,bA_] at h1
  have hlt:e.on < j:=Nat.lt_of_succ_le (by simpa [Nat.blt] using h1.2)
  have hd:=hc j o hj (by simpa using ho) e he h1.1
  rcases h2 with rfl | h2
  ·exact hd
  ·have hlen:e.on < (xO_ [] ops.toList).length:=by
    have:=(List.getElem?_eq_some_iff.1 hb).1
    omega
   rw [List.getD_eq_getElem?_getD,List.getElem?_eq_getElem hlen] at h2
   exact ih e.on hlt _ u hd (List.getElem?_eq_getElem hlen) h2
theorem aIs_ {ops:Array Oper} {D:Nat→Bool} (hc:ath_ ops D) {k b u:Nat} {o:Oper} (ho:ops[k]?=some o) (hr:∀ e∈o.after.toList,Region.binds .any e=true→D e.on=true)
  (hb:(xO_ [] ops.toList)[k]?=some b) (hu:Nat.testBit b u=true):D u=true:=by
 obtain ⟨o',ho',h⟩:=aek_ ops.toList [] k b (by simp) hb
 simp only [List.length_nil,Nat.sub_zero,Array.getElem?_toList,ho,oI_] at ho'
 subst ho'
 obtain ⟨e,he,h1,h2⟩:=h u hu
 simp only [acl_,bA_] at h1
 have hd:=hr e he h1.1
 have hlt:e.on < k:=Nat.lt_of_succ_le (by simpa [Nat.blt] using h1.2)
 rcases h2 with rfl | h2
 ·exact hd
 ·have hlen:e.on < (xO_ [] ops.toList).length:=by
   have:=(List.getElem?_eq_some_iff.1 hb).1
   omega
  rw [List.getD_eq_getElem?_getD,List.getElem?_eq_getElem hlen] at h2
  exact axj_ hc e.on _ u hd (List.getElem?_eq_getElem hlen) h2
def uV_:List Bool→Nat
 | []=>0
 | true :: l=>uV_ l
 | false :: l=>uV_ l+1
theorem agj_:∀ (l:List Bool) (i:Nat),l[i]?=some false→uV_ (l.set i true)+1=uV_ l
 | [],i,h=>by simp at h
 | b :: l,0,h=>by simp at h;subst h;simp [uV_]
 | true :: l,i+1,h=>by simp only [List.set_cons_succ,uV_];exact agj_ l i (by simpa using h)
 | false :: l,i+1,h=>by simp only [List.set_cons_succ,uV_];rw [← agj_ l i (by simpa using h)]
theorem alb_:∀ (l:List Bool),uV_ l=0→∀ i,i < l.length→l[i]?=some true
 | [],_,i,h=>by simp at h
 | true :: l,h,0,_=>rfl
 | true :: l,h,i+1,hi=>by simpa using alb_ l h i (by simpa using hi)
 | false :: l,h,_,_=>by simp [uV_] at h
theorem ano_:∀ n,uV_ (List.replicate n false)=n
 | 0=>rfl
 | n+1=>by simp [List.replicate_succ,uV_,ano_ n]
section
variable {B:Base} {d:Nat} {up:Nat→Nat→Value} {S:Nat→Sem1} {P:Program} {cx:Cx} {into:Into} {fid rid:Nat} {R:Nat} {Q:Exit→Act→World→Prop} {ops:Array Oper} {nt:Nat} {ρ:List T}
variable {its:List Item} {s0 s1:St} {c0 c1:Nat}
def MD (c0:Nat) (its:List Item) (D:Nat→Bool) (j:Nat):Prop:=j < c0∨∃ m it,its[m]?=some it∧D m=true∧it.lo≤j∧j < it.hi
def xv_ (listed:Array Bool) (j:Nat):Bool:=listed.getD j false
theorem aDx_ {listed:Array Bool} {i:Nat} (h:i < listed.size):xv_ (listed.setIfInBounds i true)=addD (xv_ listed) i:=by
 funext j
 unfold xv_ addD
 by_cases hj:j=i
 ·subst hj
  simp [Array.getD_eq_getD_getElem?,h]
 ·rw [if_neg hj,getD_set_ne _ (Ne.symm hj)]
theorem aJ2_ (hc:Chain (fun i it s=>ae2_ P ops Q B d up nt ρ i it.rd it.wr it.lo it.hi s) 0 s0 c0 its s1 c1) (hlen:its.length=ops.size) (hok:af2_ [] (its.map Item.tr) (xO_ [] ops.toList)=true) (hfw:agm_ 0 ops.toList=true)
  (hQ:∀ G a w,Rel (fun i=>i < c1) B d up s1 ρ G a w→a.tmps.size=nt→Q .normal a w) :
  ∀ (fuel:Nat) (listed:Array Bool) (a:Act) (w:World),listed.size=ops.size→uV_ listed.toList≤fuel→ath_ ops (xv_ listed) →
   (∃ G,Rel (MD c0 its (xv_ listed)) B d up (stD (xv_ listed) 0 s0 its) ρ G a w)→a.tmps.size=nt→wpAny P .any ops Q fuel listed a w:=by
 have hblen:(xO_ [] ops.toList).length=ops.size:=by rw [ak8_];simp
 have gone:∀ (listed:Array Bool),listed.size=ops.size→Region.ready .any ops listed=[]→∀ j,j < ops.size→xv_ listed j=true:=by
  intro listed hs hr j
  induction j using Nat.strongRecOn with
  | _ j ih =>
   intro hj
   cases hd:xv_ listed j with
   | true=>rfl
   | false =>
    exfalso
    have ho:ops[j]?=some ops[j]:=Array.getElem?_eq_getElem hj
    have:j∈Region.ready .any ops listed:=by
     rw [mem_ready]
     refine ⟨?_,ops[j],ho,fun e he hb=>?_⟩
     ·unfold xv_ at hd
      rw [Array.getD_eq_getD_getElem?] at hd ⊢
      rw [Array.getElem?_eq_getElem (by omega)] at hd ⊢
      simpa using hd
     ·have hlt:=aBr_ hfw j ops[j] (by simp) e (by simpa using he) hb
      have hlt:e.on < j:=by omega
      exact ih e.on hlt (by omega)
    rw [hr] at this
    cases this
 have fin:∀ (listed:Array Bool) (a:Act) (w:World),listed.size=ops.size→Region.ready .any ops listed=[]→(∃ G,Rel (MD c0 its (xv_ listed)) B d up (stD (xv_ listed) 0 s0 its) ρ G a w)→a.tmps.size=nt→Q .normal a w:=by
  rintro listed a w hs hr ⟨G,hrel⟩ hnt
  have hall:=gone listed hs hr
  rw [hc.last fun m hm=>by rw [Nat.zero_add];exact hall m (by omega)] at hrel
  refine hQ G a w (hrel.mono fun j hj=>?_) hnt
  rcases hj with h1 | ⟨m,it,hm,_,_,h3⟩
  ·exact Nat.lt_of_lt_of_le h1 hc.le
  ·exact Nat.lt_of_lt_of_le h3 (hc.get m it hm).2.2.2
 intro fuel
 induction fuel with
 | zero =>
  intro listed a w hs hf _ hr hnt
  have h0:∀ j,j < ops.size→xv_ listed j=true:=by
   intro j hj
   have:=alb_ listed.toList (by omega) j (by simp;omega)
   unfold xv_
   rw [Array.getD_eq_getD_getElem?,← Array.getElem?_toList,this]
   rfl
  have hre:Region.ready .any ops listed=[]:=by
   cases hl:Region.ready .any ops listed with
   | nil=>rfl
   | cons j l =>
    exfalso
    have hm:j∈Region.ready .any ops listed:=by rw [hl];simp
    obtain ⟨h1,o,ho,_⟩:=mem_ready.1 hm
    have hj:j < ops.size:=(Array.getElem?_eq_some_iff.1 ho).1
    have:=h0 j hj
    unfold xv_ at this
    rw [Array.getD_eq_getD_getElem?] at this h1
    rw [Array.getElem?_eq_getElem (by omega)] at this h1
    simp at this h1
    rw [this] at h1
    cases h1
  exact ⟨hre,fin listed a w hs hre hr hnt⟩
 | succ fuel ih =>
  intro listed a w hs hf hcl hr hnt
  refine ⟨fun hre=>fin listed a w hs hre hr hnt,fun k hk=>?_⟩
  obtain ⟨hk1,o,ho,hed⟩:=mem_ready.1 hk
  obtain ⟨G,hrel⟩:=hr
  have hklt:k < ops.size:=(Array.getElem?_eq_some_iff.1 ho).1
  have hkl:k < listed.size:=by omega
  have hkd:xv_ listed k=false:=by
   unfold xv_
   rw [Array.getD_eq_getD_getElem?] at hk1 ⊢
   rw [Array.getElem?_eq_getElem hkl] at hk1 ⊢
   simpa using hk1
  obtain ⟨it,hit⟩:∃ it,its[k]?=some it:=⟨its[k]'(by omega),List.getElem?_eq_getElem (by omega)⟩
  obtain ⟨b,hb⟩:∃ b,(xO_ [] ops.toList)[k]?=some b:=⟨_,List.getElem?_eq_getElem (by omega)⟩
  obtain ⟨g1,g2,g3,g4⟩:=hc.get k it hit
  have hitr:(its.map Item.tr)[k]?=some it.tr:=by rw [List.getElem?_map,hit];rfl
  have hed':∀ e∈o.after.toList,Region.binds .any e=true→xv_ listed e.on=true:=fun e he hbd=>hed e (by simpa using he) hbd
  have before:∀ m' it',its[m']?=some it'→m' < k→xv_ listed m'=false→kD_ it'.tr it.tr=true:=by
   intro m' it' hm hlt hd
   rcases aik_ hok k m' it.tr it'.tr b hitr hb (by simpa using hlt) (by rw [List.nil_append,List.getElem?_map,hm];rfl) with h1 | h1
   ·rw [aIs_ hcl ho hed' hb h1] at hd;cases hd
   ·exact h1
  have behind:∀ m' it',its[m']?=some it'→k < m'→xv_ listed m'=true→kD_ it.tr it'.tr=true:=by
   intro m' it' hm hlt hd
   have hml:m' < ops.size:=by rw [← hlen];exact (List.getElem?_eq_some_iff.1 hm).1
   obtain ⟨b',hb'⟩:∃ b',(xO_ [] ops.toList)[m']?=some b':=⟨_,List.getElem?_eq_getElem (by omega)⟩
   rcases aik_ hok m' k it'.tr it.tr b' (by rw [List.getElem?_map,hm];rfl) hb' (by simpa using hlt) (by rw [List.nil_append];exact hitr) with h1 | h1
   ·rw [axj_ hcl m' b' k hd hb' h1] at hkd;cases hkd
   ·exact h1
  have hread:∀ r∈it.rd,(stD (xv_ listed) 0 s0 its).get r=(stD (fun _=>true) 0 s0 (its.take k)).get r:=by
   intro r hr
   refine auc_ rfl (by omega) (fun m' it' hm hlt hd=>?_) (fun m' it' hm hle hd=>?_)
   ·rw [Nat.zero_add] at hd;exact (ag5_ (before m' it' hm hlt hd)).1 r hr
   ·rw [Nat.zero_add] at hd
    by_cases he:m'=k
    ·subst he;rw [hkd] at hd;cases hd
    ·exact (ag5_ (behind m' it' hm (by omega) hd)).2.2 r hr
  have hfresh:∀ j,it.lo≤j→j < it.hi→¬ MD c0 its (xv_ listed) j:=by
   rintro j h1 h2 (h3 | ⟨m,it',hm,hd,h3,h4⟩)
   ·omega
   ·rcases Nat.lt_trichotomy m k with hlt | heq | hgt
    ·have:=hc.apart m k it' it hm hit hlt;omega
    ·subst heq;rw [hkd] at hd;cases hd
    ·have:=hc.apart k m it it' hit hm hgt;omega
  rw [Nat.zero_add] at g1
  refine g1 (MD c0 its (xv_ listed)) (stD (xv_ listed) 0 s0 its) G a w _ hread hrel hnt hfresh fun G' a' w' hr' hs'=>?_
  have hadd:=aDx_ (i:=k) hkl
  refine ih (listed.setIfInBounds k true) a' w' (by simp [hs]) ?_ ?_ ?_ hs'
  ·have:=agj_ listed.toList k (by
    unfold xv_ at hkd
    rw [Array.getD_eq_getD_getElem?,← Array.getElem?_toList] at hkd
    rw [List.getElem?_eq_getElem (by simpa using hkl)] at hkd ⊢
    simpa using hkd)
   rw [Array.toList_setIfInBounds]
   omega
  ·rw [hadd]
   intro j oj hj hoj e he hbd
   unfold addD at hj ⊢
   by_cases hjk:j=k
   ·subst hjk
    rw [ho] at hoj
    cases hoj
    by_cases hek:e.on=j
    ·simp [hek]
    ·rw [if_neg hek];exact hed' e he hbd
   ·rw [if_neg hjk] at hj
    by_cases hek:e.on=k
    ·simp [hek]
    ·rw [if_neg hek];exact hcl j oj hj hoj e he hbd
  ·refine ⟨G',?_⟩
   rw [hadd]
   refine (hr'.mono ?_).congr fun r=>?_
   ·rintro j (h1 | ⟨h1,h2⟩)
    ·rcases h1 with h1 | ⟨m,it',hm,hd,h3⟩
     ·exact .inl h1
     ·exact .inr ⟨m,it',hm,by unfold addD;split <;> simp_all,h3⟩
    ·exact .inr ⟨k,it,hit,by simp [addD],h1,h2⟩
   ·have:=aBt_ (D:=xv_ listed) (i:=0) hit (by rw [Nat.zero_add];exact hkd) (s:=s0) (fun m' it' hm hlt hd r=>by
     rw [Nat.zero_add] at hd
     rcases (ag5_ (behind m' it' hm hlt hd)).2.1 r with h1 | h1
     ·exact .inr h1
     ·exact .inl h1) r
    rw [Nat.zero_add] at this
    exact this.symm
end
section
variable {B:Base} {f:Fr} {S:Nat→Sem1} {P:Program} {cx:Cx} {into:Into} {fid rid:Nat} {R:Nat} {Q:Exit→Act→World→Prop} {ops:Array Oper} {out:List T} {K0:Zb}
theorem arf_ (E:Env P cx S) (hn:∀ o∈ops.toList,∀ n,o.dst=some n→n < f.nt) {fin:List Tr→KP} {K:List Sem1} :
  ∀ (os:List Oper) (i:Nat) (tr:List Tr) (lv:Nat) (s:St) (ct:Ct) (fs:yT_) (p:PL) (ρ:List T),ops.toList.drop i=os→k0_ cx into fid rid f.d ops true fin os i tr lv s ct fs=some p →
   p.den S R K ρ=some out→ρ.length=ct.a→FactsOk fs ρ→∃ its ct' e s' fs' p',its.length=os.length ∧
    (∀ e',Chain (fun i it s=>ae2_ P ops Q B f.d f.up f.nt (ρ++e++e') i it.rd it.wr it.lo it.hi s) i s ct.i its s' ct'.i) ∧
    fin (tr++its.map Item.tr) lv s' ct' fs'=some p'∧p'.den S R K (ρ++e)=some out∧(ρ++e).length=ct'.a∧FactsOk fs' (ρ++e)
 | [],i,tr,lv,s,ct,fs,p,ρ,_,h,hp,hl,hf=>by
  refine ⟨[],ct,[],s,fs,p,rfl,fun e'=>.nil,?_,by rw [List.append_nil];exact hp,by rw [List.append_nil];exact hl,by rw [List.append_nil];exact hf⟩
  rw [List.map_nil,List.append_nil];exact h
 | o :: os,i,tr,lv,s,ct,fs,p,ρ,hos,h,hp,hl,hf=>by
  have ho:ops[i]?=some o:=by
   rw [← Array.getElem?_toList]
   have:=congrArg (·[0]?) hos
   simpa using this
  have hn':=hn o (List.mem_of_mem_drop (i:=i) (by rw [hos];simp))
  have hos':ops.toList.drop (i+1)=os:=by
   rw [← List.drop_drop,hos];rfl
  rcases aA8_ (P:=P) (Q:=Q) (B:=B) (up:=f.up) (nt:=f.nt) (R:=R) (K:=K) (out:=out) E ho hn' (show oneO cx into fid rid f.d ops true o i (k0_ cx into fid rid f.d ops true fin os (i+1)) tr lv s ct fs=some p from h) hp hl hf with
   ⟨rd,wr,ct',e,fs',p',hit,hle,hrc,hp',hl',hf'⟩ | ⟨hd,_⟩
  ·obtain ⟨its,ct2,e2,s2,fs2,p2,q1,q2,q3,q4,q5,q6⟩:=arf_ E hn os (i+1) _ lv _ ct' fs' p' (ρ++e) hos' hrc hp' hl' hf'
   refine ⟨⟨rd,wr,ct.i,ct'.i⟩ :: its,ct2,e++e2,s2,fs2,p2,by simp [q1],fun e'=>.cons ?_ rfl hle ?_,?_,by rw [← List.append_assoc];exact q4,by rw [← List.append_assoc];exact q5,by rw [← List.append_assoc];exact q6⟩
   ·have:=hit (e2++e')
    simp only [List.append_assoc] at this ⊢
    exact this
   ·have:=q2 e'
    simp only [List.append_assoc] at this ⊢
    exact this
   ·simp only [List.map_cons,Item.tr]
    rw [List.append_assoc] at q3
    exact q3
  ·cases hd
theorem Rel.drew {M:Nat→Prop} {d:Nat} {up:Nat→Nat→Value} {s:St} {ρ:List T} {G:Gh} {a:Act} {w:World} (h:Rel M B d up s ρ G a w):Rel M B d up s ρ G a { w with drawn:=w.drawn+1 }:=by
 have k:Keep (fun _=>False) (fun _=>False) G w G { w with drawn:=w.drawn+1 }:=⟨Nat.le_refl _,fun _ _ h=>⟨h,rfl⟩,fun _ _ h=>h,fun _ _ h _=>⟨h,rfl⟩,fun _ _=>⟨rfl,fun _ _=>rfl⟩⟩
 exact ⟨fun e n he=>(h.tm e n he).keep k fun _ _ hf=>hf,fun b=>(h.bx b).keep k (fun hf=>hf) (fun hf=>hf) fun _ _ hf=>hf,fun i=>(h.ob i).keep k (fun _ hf=>hf) (fun hf=>hf) fun _ _ hf=>hf,h.ment,h.key,h.lab,h.dn,
  ⟨h.base.os,h.base.tape,h.base.output,h.base.size,h.base.free,h.base.frn⟩,h.bt⟩
theorem ark_ (E:Env P cx S) (hI:anh_ P S R out B into) (hmx:P.follows .mixedOrders=true) (hn:∀ o∈ops.toList,∀ n,o.dst=some n→n < f.nt) {id:Nat} {draw:Bool} {k:KP} (hk:Snd S R out B f K0 k (Q .normal))
  {lv:Nat} {s:St} {ct:Ct} {fs:yT_} {p:PL} {a:Act} {w:World}
  (h:k0_ cx into fid rid f.d ops draw (fun tr lv s ct fs=>bif draw then bif af2_ [] tr (xO_ [] ops.toList) && agm_ 0 ops.toList then k lv s ct fs else some (.dbg (fid * 100000000+100000+id) []) else k lv s ct fs) ops.toList 0 [] lv s ct fs=some p)
  (hat:At S R out B f K0 XT p lv s ct fs a w):(Code.region id ops draw).wp P Q a w:=by
 cases draw with
 | false =>
  refine wp_region ?_
  rw [List.range_eq_range',← Array.length_toList]
  exact aGv_ E hI hn (fin:=fun tr lv s ct fs=>k lv s ct fs) (fun tr=>hk) ops.toList 0 [] lv s ct fs p a w rfl h hat
 | true =>
  refine wp_region_any hmx ?_
  obtain ⟨K,ρ,G,h1,h2,h3,⟨e0,h0⟩,h4,h5,h6,h7,_⟩:=hat
  obtain ⟨its,ct',e,s',fs',p',q1,q2,q3,q4,q5,q6⟩:=arf_ (Q:=Q) (B:=B) E hn ops.toList 0 [] lv s ct fs p ρ rfl h h1 h4 h5
  simp only [List.nil_append,cond_true] at q3
  cases hc:(af2_ [] (its.map Item.tr) (xO_ [] ops.toList) && agm_ 0 ops.toList) with
  | false =>
   rw [hc] at q3
   simp only [cond_false,oI_] at q3
   subst q3
   cases q4
  | true =>
   rw [hc] at q3
   simp only [cond_true] at q3
   simp only [bA_] at hc
   have hch:=q2 []
   rw [List.append_nil] at hch
   have hnone:∀ j,xv_ (Array.replicate ops.size false) j=false:=by
    intro j
    unfold xv_
    rw [Array.getD_eq_getD_getElem?,Array.getElem?_replicate]
    split <;> rfl
   refine aJ2_ (B:=B) hch (by rw [q1];simp) hc.1 hc.2 (fun G a w hr hs=>hk lv s' ct' fs' p' a w q3 ⟨K,ρ++e,G,q4,h2,h3,⟨e0++e,by rw [h0,List.append_assoc]⟩,q5,q6,hr,hs,trivial⟩) ops.size _ a _ (by simp)
    (by rw [Array.toList_replicate,ano_];exact Nat.le_refl _) (fun j o hj=>by rw [hnone j] at hj;cases hj) ⟨G,?_⟩ h7
   rw [ato_ fun m _=>hnone _]
   exact (h6.ext.drew).mono fun i hi=>.inl hi
end
theorem ai1_:∀ {p q:Pth},acb_ p q=true→p=q
 | [],[],_=>rfl
 | (x,w,j) :: p,(x',w',j') :: q,h=>by
  simp only [acb_,bA_] at h
  obtain ⟨⟨⟨h1,h2⟩,h3⟩,h4⟩:=h
  rw [Lf.beq_eq h1,nB_ h2,nB_ h3,ai1_ h4]
 | [],_ :: _,h=>by simp [acb_] at h
 | _ :: _,[],h=>by simp [acb_] at h
theorem Ce.beq_eq {c e:Ce} (h:c.beq e=true):c=e:=by
 cases c <;> cases e <;> simp only [Ce.beq,bA_] at h <;> try cases h
 ·rw [Lf.beq_eq h]
 ·rename_i h1 h2;rw [nB_ h1,ai1_ h2]
 ·rfl
 ·rfl
theorem amb_:∀ {cs es:List Ce},ag9_ cs es=true→cs=es
 | [],[],_=>rfl
 | c :: cs,e :: es,h=>by simp only [ag9_,bA_] at h;rw [Ce.beq_eq h.1,amb_ h.2]
 | [],_ :: _,h=>by simp [ag9_] at h
 | _ :: _,[],h=>by simp [ag9_] at h
theorem avb_:∀ {cs es:List Nat},aka_ cs es=true→cs=es
 | [],[],_=>rfl
 | c :: cs,e :: es,h=>by simp only [aka_,bA_] at h;rw [nB_ h.1,avb_ h.2]
 | [],_ :: _,h=>by simp [aka_] at h
 | _ :: _,[],h=>by simp [aka_] at h
theorem au0_:∀ {cs es:List (Bool × List Ce)},aki_ cs es=true→cs=es
 | [],[],_=>rfl
 | (a,c) :: cs,(b,e) :: es,h=>by
  simp only [aki_,bA_,beq_iff_eq] at h
  rw [h.1.1,amb_ h.1.2,au0_ h.2]
 | [],_ :: _,h=>by simp [aki_] at h
 | _ :: _,[],h=>by simp [aki_] at h
theorem SV.beq_eq {v u:SV} (h:v.beq u=true):v=.un∨v=u:=by
 cases v with
 | un=>exact .inl rfl
 | v a cs =>
  cases u with
  | v b es=>simp only [SV.beq,bA_,beq_iff_eq] at h;rw [h.1,amb_ h.2];exact .inr rfl
  | _=>simp [SV.beq] at h
 | pt b o =>
  cases u with
  | pt b o=>simp only [SV.beq,bA_] at h;rw [nB_ h.1,nB_ h.2];exact .inr rfl
  | _=>simp [SV.beq] at h
 | ep i q x w o =>
  cases u with
  | ep i q x w o =>
   simp only [SV.beq,bA_] at h
   obtain ⟨⟨⟨⟨h1,h2⟩,h3⟩,h4⟩,h5⟩:=h
   rw [nB_ h1,ai1_ h2,Lf.beq_eq h3,nB_ h4,nB_ h5];exact .inr rfl
  | _=>simp [SV.beq] at h
 | fp s x w o =>
  cases u with
  | fp s x w o =>
   simp only [SV.beq,bA_] at h
   obtain ⟨⟨⟨h1,h2⟩,h3⟩,h4⟩:=h
   rw [Lf.beq_eq h1,Lf.beq_eq h2,nB_ h3,nB_ h4];exact .inr rfl
  | _=>simp [SV.beq] at h
 | tp vs =>
  cases u with
  | tp us=>simp only [SV.beq] at h;rw [au0_ h];exact .inr rfl
  | _=>simp [SV.beq] at h
 | cl f bs =>
  cases u with
  | cl f bs=>simp only [SV.beq,bA_] at h;rw [nB_ h.1,avb_ h.2];exact .inr rfl
  | _=>simp [SV.beq] at h
 | ob d x =>
  cases u with
  | ob d x=>simp only [SV.beq,bA_,beq_iff_eq] at h;rw [h.1,Lf.beq_eq h.2];exact .inr rfl
  | _=>simp [SV.beq] at h
 | fz p x =>
  cases u with
  | fz q y =>
   simp only [SV.beq,bA_] at h
   have e2:=Lf.beq_eq h.2
   subst e2
   have h1:=h.1
   cases p with
   | z =>
    cases q with
    | z=>exact .inr rfl
    | w=>simp [Pv.beq] at h1
   | w t x0 l =>
    cases q with
    | z=>simp [Pv.beq] at h1
    | w t' x0' l' =>
     simp only [Pv.beq,bA_] at h1
     rw [nB_ h1.1.1,Lf.beq_eq h1.1.2,Lf.beq_eq h1.2];exact .inr rfl
  | _=>simp [SV.beq] at h
 | tk x m =>
  cases u with
  | tk y n=>simp only [SV.beq,bA_] at h;rw [Lf.beq_eq h.1,Lf.beq_eq h.2];exact .inr rfl
  | _=>simp [SV.beq] at h
 | fl x =>
  cases u with
  | fl x=>simp only [SV.beq] at h;rw [Lf.beq_eq h];exact .inr rfl
  | _=>simp [SV.beq] at h
 | fr x =>
  cases u with
  | fr x=>simp only [SV.beq] at h;rw [Lf.beq_eq h];exact .inr rfl
  | _=>simp [SV.beq] at h
def Agr (n:Nat) (ρ ρ':List T):Prop:=∀ m,m < n→ρ[m]?=ρ'[m]?
theorem vX_ {a b:Nat} (h:Nat.blt a b=true):a < b:=Nat.lt_of_succ_le (by simpa [Nat.blt] using h)
section
variable {G:Gh} {w:World} {ρ ρ':List T} {n i:Nat}
theorem Lf.evo_agr (ha:Agr n ρ ρ') {x:Lf} (h:x.bel n=true):x.evo ρ=x.evo ρ':=by
 cases x with
 | k v=>rfl
 | a m=>exact ha m (vX_ h)
 | e=>rfl
theorem adl_ (ha:Agr n ρ ρ') {x:Lf} (h:x.bel n=true):xg_ ρ x=xg_ ρ' x:=by unfold xg_;rw [Lf.evo_agr ha h]
theorem au3_ (ha:Agr n ρ ρ'):∀ {q:Pth},ae7_ n q=true→pthO ρ q=pthO ρ' q
 | [],_=>rfl
 | (x,w,j) :: q,h=>by
  simp only [ae7_,bA_] at h
  simp only [pthO,adl_ ha h.1,au3_ ha h.2]
theorem aw0_ (ha:Agr n ρ ρ') {id:Nat} {q:Pth} (h:ae7_ n q=true):pthI ρ id q=pthI ρ' id q:=by
 cases q with
 | nil=>rfl
 | cons x q=>simp only [pthI];rw [au3_ ha h]
theorem RelCe.agr (ha:Agr n ρ ρ') {c:Ce} {v:Value} (hb:c.bel n i=true) (h:RelCe G w ρ c v):RelCe G w ρ' c v:=by
 cases c with
 | p x=>obtain ⟨t,h1,h2⟩:=h;exact ⟨t,by rw [← Lf.evo_agr ha hb];exact h1,h2⟩
 | o id q =>
  simp only [Ce.bel,bA_] at hb
  obtain ⟨p,h1,h2⟩:=h
  exact ⟨p,by rw [← aw0_ ha hb.2];exact h1,h2⟩
 | n=>exact h
 | d=>exact h
theorem RelCs.agr (ha:Agr n ρ ρ'):∀ {cs:List Ce} {vs:List Value},kc_ n i cs=true→RelCs G w ρ cs vs→RelCs G w ρ' cs vs
 | [],[],_,_=>trivial
 | c :: cs,v :: vs,hb,h=>by
  simp only [kc_,bA_] at hb
  exact ⟨h.1.agr ha hb.1,RelCs.agr ha hb.2 h.2⟩
 | [],_ :: _,_,h=>h.elim
 | _ :: _,[],_,h=>h.elim
theorem RelVal.agr (ha:Agr n ρ ρ') {ag:Bool} {cs:List Ce} {c:Value} (hb:kc_ n i cs=true) (h:RelVal G w ρ ag cs c):RelVal G w ρ' ag cs c:=by
 cases ag with
 | true=>obtain ⟨vs,h1,h2⟩:=h;exact ⟨vs,h1,h2.agr ha hb⟩
 | false =>
  obtain ⟨x,rfl,h2,h3⟩:=h
  simp only [kc_,Bool.and_true] at hb
  exact ⟨x,rfl,h2.agr ha hb,h3⟩
theorem RelTp.agr (ha:Agr n ρ ρ'):∀ {cs:List (Bool × List Ce)} {vs:List Value},akj_ n i cs=true→RelTp G w ρ cs vs→RelTp G w ρ' cs vs
 | [],[],_,_=>trivial
 | c :: cs,v :: vs,hb,h=>by
  simp only [akj_,bA_] at hb
  exact ⟨h.1.agr ha hb.1,RelTp.agr ha hb.2 h.2⟩
 | [],_ :: _,_,h=>h.elim
 | _ :: _,[],_,h=>h.elim
theorem RelSV.agr (ha:Agr n ρ ρ') {v:SV} {c:Value} (hb:v.bel n i=true) (h:RelSV G w ρ v c):RelSV G w ρ' v c:=by
 cases v with
 | un=>trivial
 | v ag cs=>exact RelVal.agr ha hb h
 | pt b off=>exact h
 | ep id q ix wd off =>
  simp only [SV.bel,bA_] at hb
  obtain ⟨p,b,m,cap,j,h1,h2,h3,h4⟩:=h
  exact ⟨p,b,m,cap,j,by rw [← aw0_ ha hb.1.2];exact h1,h2,by rw [← adl_ ha hb.2];exact h3,h4⟩
 | fp s ix wd off =>
  simp only [SV.bel,bA_] at hb
  obtain ⟨xs,j,r,b,base,h1,h2,h3⟩:=h
  exact ⟨xs,j,r,b,base,by rw [← Lf.evo_agr ha hb.1];exact h1,by rw [← adl_ ha hb.2];exact h2,h3⟩
 | tp vs=>obtain ⟨us,h1,h2⟩:=h;exact ⟨us,h1,h2.agr ha hb⟩
 | cl f bs=>exact h
 | ob dp x=>exact h
 | fz pv x=>exact h
 | tk x m=>exact h
 | fl x=>exact h
 | fr x=>exact h
theorem RelBox.agr (ha:Agr n ρ ρ') {b:Nat} {v:SV} (hb:v.bel n i=true) (h:RelBox G w ρ b v):RelBox G w ρ' b v:=by
 cases v with
 | v ag cs=>obtain ⟨h1,arr,elem,h2,h3⟩:=h;exact ⟨h1,arr,elem,h2,h3.agr ha hb⟩
 | _=>exact h
theorem RelObj.agr (ha:Agr n ρ ρ') {b:Nat} {v:SV} (hb:v.bel n i=true) (h:RelObj G w ρ b v):RelObj G w ρ' b v:=by
 cases v with
 | ob dp x=>obtain ⟨t,h1,h2⟩:=h;exact ⟨t,by rw [← Lf.evo_agr ha hb];exact h1,h2⟩
 | fz pv x =>
  simp only [SV.bel,bA_] at hb
  obtain ⟨t,h1,h2,h3⟩:=h
  refine ⟨t,by rw [← Lf.evo_agr ha hb.2];exact h1,h2,?_⟩
  have hb1:=hb.1
  cases pv with
  | z=>trivial
  | w tk x0 lo =>
   simp only [Pv.bel,bA_] at hb1
   obtain ⟨g0,F,n,zs,g1,g2,g3⟩:=h3
   exact ⟨g0,F,n,zs,by rw [← Lf.evo_agr ha hb1.1.2];exact g1,by rw [← adl_ ha hb1.2];exact g2,g3⟩
 | tk x m =>
  simp only [SV.bel,bA_] at hb
  obtain ⟨h0,F,u,h1,h2,h3⟩:=h
  exact ⟨h0,F,u,by rw [← Lf.evo_agr ha hb.1];exact h1,by rw [← Lf.evo_agr ha hb.2];exact h2,h3⟩
 | fl x=>obtain ⟨h0,t,h1,h2⟩:=h;exact ⟨h0,t,by rw [← Lf.evo_agr ha hb];exact h1,h2⟩
 | fr x=>obtain ⟨h0,t,h1,h2⟩:=h;exact ⟨h0,t,by rw [← Lf.evo_agr ha hb];exact h1,h2⟩
 | _=>exact h
theorem uA_:∀ {cs:List Ce},kc_ n i cs=true→∀ j∈zl_ cs,j < i
 | [],_,j,hj=>by simp [zl_] at hj
 | c :: cs,h,j,hj=>by
  simp only [kc_,bA_] at h
  cases c with
  | o id q =>
   simp only [Ce.bel,bA_] at h
   simp only [zl_,List.mem_cons] at hj
   rcases hj with rfl | hj
   ·exact vX_ h.1.1
   ·exact uA_ h.2 j hj
  | p x=>exact uA_ h.2 j hj
  | n=>exact uA_ h.2 j hj
  | d=>exact uA_ h.2 j hj
theorem ari_:∀ {vs:List (Bool × List Ce)},akj_ n i vs=true→∀ j∈vk_ vs,j < i
 | [],_,j,hj=>by simp [vk_] at hj
 | v :: vs,h,j,hj=>by
  simp only [akj_,bA_] at h
  simp only [vk_,List.mem_append] at hj
  rcases hj with hj | hj
  ·exact uA_ h.1 j hj
  ·exact ari_ h.2 j hj
theorem SV.bel_ids {v:SV} (h:v.bel n i=true):∀ j∈zf_ v,j < i:=by
 intro j hj
 cases v with
 | un=>simp [zf_] at hj
 | v ag cs=>exact uA_ h j hj
 | pt b off=>simp [zf_] at hj;subst hj;exact vX_ h
 | ep id q ix wd off=>simp [zf_] at hj;subst hj;simp only [SV.bel,bA_] at h;exact vX_ h.1.1
 | fp s ix wd off=>simp [zf_] at hj
 | tp vs=>exact ari_ h j hj
 | cl f bs=>simp only [SV.bel,List.all_eq_true] at h;exact vX_ (h j (by simpa [zf_] using hj))
 | ob dp x=>simp [zf_] at hj
 | fz pv x =>
  cases pv with
  | z=>simp [zf_] at hj
  | w tk x0 lo=>simp [zf_] at hj;subst hj;simp only [SV.bel,Pv.bel,bA_] at h;exact vX_ h.1.1.1
 | tk x m=>simp [zf_] at hj
 | fl x=>simp [zf_] at hj
 | fr x=>simp [zf_] at hj
end
theorem anz_ {i0 i1:Nat} {all:Ren}:∀ {rn:Ren},aag_ i0 i1 all rn=true→∀ j x,(j,x)∈rn→i0≤j∧j < i1∧∀ id,x=some id→xL_ all id=some j
 | [],_,j,x,h=>by simp at h
 | (j0,x0) :: rn,h,j,x,hm=>by
  simp only [aag_,bA_] at h
  obtain ⟨⟨⟨⟨h1,h2⟩,_⟩,h3⟩,h4⟩:=h
  rcases List.mem_cons.1 hm with hm | hm
  ·cases hm
   refine ⟨Nat.le_of_ble_eq_true h1,vX_ h2,fun id he=>?_⟩
   subst he
   simp only [bA_] at h3
   have h3:=h3.2
   split at h3
   ·rename_i k hk;rw [hk,nB_ h3]
   ·cases h3
  ·exact anz_ h4 j x hm
theorem ak9_ {i0 i1:Nat} {all:Ren}:∀ {rn:Ren},aag_ i0 i1 all rn=true→∀ j x,(j,x)∈rn→j % 2=0
 | [],_,j,x,h=>by simp at h
 | (j0,x0) :: rn,h,j,x,hm=>by
  simp only [aag_,bA_] at h
  obtain ⟨⟨⟨⟨h1,h2⟩,h0⟩,h3⟩,h4⟩:=h
  rcases List.mem_cons.1 hm with hm | hm
  ·cases hm;exact nB_ h0
  ·exact ak9_ h4 j x hm
theorem amy_ {i0 i1:Nat} {all:Ren}:∀ {rn:Ren},aag_ i0 i1 all rn=true→∀ j id,(j,some id)∈rn→id % 4≠2
 | [],_,j,x,h=>by simp at h
 | (j0,x0) :: rn,h,j,id,hm=>by
  simp only [aag_,bA_] at h
  obtain ⟨⟨⟨⟨h1,h2⟩,h0⟩,h3⟩,h4⟩:=h
  rcases List.mem_cons.1 hm with hm | hm
  ·cases hm
   simp only [bA_,Bool.not_eq_true'] at h3
   intro e
   have:=h3.1
   rw [e] at this
   cases this
  ·exact amy_ h4 j id hm
theorem alh_ {s:St} {a0 i0:Nat} {rn:Ren}:∀ {h:St},aku_ s a0 i0 rn h=true→∀ r v,(r,v)∈h→v=.un∨(v=s.get r∧v.bel a0 i0=true∧(∀ id,r=.o id→id < i0∧xL_ rn id=none)∧∀ b,r=.x b→b < i0)
 | [],_,r,v,hm=>by simp at hm
 | (r0,v0) :: h,hc,r,v,hm=>by
  simp only [aku_,bA_] at hc
  rcases List.mem_cons.1 hm with hm | hm
  ·obtain ⟨rfl,rfl⟩:=Prod.mk.inj hm
   have hc1:=hc.1
   rw [Bool.or_eq_true] at hc1
   rcases hc1 with hu | h4
   ·cases v <;> first | exact .inl rfl | cases hu
   ·simp only [bA_] at h4
    obtain ⟨⟨h1,h2⟩,h3⟩:=h4
    rcases SV.beq_eq h1 with hu | he
    ·exact .inl hu
    ·refine .inr ⟨he,h2,fun id he=>?_,fun b he=>?_⟩
     ·subst he
      simp only [aLp_,bA_] at h3
      refine ⟨vX_ h3.1,?_⟩
      have h4:=h3.2
      split at h4
      ·rename_i hn;exact hn
      ·cases h4
     ·subst he;exact vX_ h3
  ·exact alh_ hc.2 r v hm
theorem jt_ {a0:Nat} {xs:List Lf} {n:Nat} {x:Lf} (h:isAt a0 xs n x=true) {ρ0 ρ:List T} (hl:ρ0.length=a0):(ρ0++xs.map (Lf.ev ρ))[n]?=some (x.ev ρ):=by
 simp only [isAt,bA_] at h
 have h1:=Nat.le_of_ble_eq_true h.1
 have h2:=h.2
 split at h2
 ·rename_i y hy
  rw [List.getElem?_append_right (by omega),hl,List.getElem?_map,hy,Lf.beq_eq h2]
  rfl
 ·cases h2
theorem ant_ {s:St} {a0 i0:Nat} {xs:List Lf} {rn:Ren}:∀ {h:St},acw_ s a0 i0 xs rn h=true→∀ r v,(r,v)∈h→(∃ j dp n,r=.o j∧v=.ob dp (.a n) ∧
  ((∃ id x,xP_ rn j=some (some id)∧s.get (.o id)=.ob dp x∧isAt a0 xs n x=true)∨(xP_ rn j=some none∧isAt a0 xs n .e=true) ∨
   (∃ x,xP_ rn j=none∧j < i0∧xL_ rn j=none∧s.get (.o j)=.ob dp x∧isAt a0 xs n x=true))) ∨
  ∃ j x n m,r=.o j∧v=.tk x (.a n)∧j < i0∧xL_ rn j=none∧x.bel a0=true∧s.get (.o j)=.tk x m∧isAt a0 xs n m=true
 | [],_,r,v,hm=>by simp at hm
 | (r0,v0) :: h,hc,r,v,hm=>by
  have hc2:acw_ s a0 i0 xs rn h=true:=by
   unfold acw_ at hc
   split at hc
   ·rename_i he;cases he
   ·rename_i j dp n ps he;cases he;simp only [bA_] at hc;exact hc.2
   ·rename_i j x n ps he;cases he;rw [bA_] at hc;exact hc.2
   ·cases hc
  rcases List.mem_cons.1 hm with hm | hm
  ·cases hm
   unfold acw_ at hc
   split at hc
   ·rename_i he;cases he
   ·rename_i j dp n ps he
    cases he
    simp only [bA_] at hc
    refine .inl ⟨j,dp,n,rfl,rfl,?_⟩
    have h1:=hc.1
    split at h1
    ·rename_i id hid
     simp only [bA_] at h1
     have h2:=h1.2
     split at h2
     ·rename_i dp' x hx
      simp only [bA_,beq_iff_eq] at h2
      exact .inl ⟨id,x,hid,by rw [h2.1];exact hx,h2.2⟩
     ·cases h2
    ·rename_i hid
     simp only [bA_] at h1
     exact .inr (.inl ⟨hid,h1.2⟩)
    ·rename_i hid
     simp only [bA_] at h1
     obtain ⟨⟨h2,h3⟩,h4⟩:=h1
     have h3':xL_ rn j=none:=by
      split at h3
      ·rename_i hn;exact hn
      ·cases h3
     split at h4
     ·rename_i dp' x hx
      simp only [bA_,beq_iff_eq] at h4
      exact .inr (.inr ⟨x,hid,vX_ h2,h3',by rw [h4.1];exact hx,h4.2⟩)
     ·cases h4
   ·rename_i j x n ps he
    cases he
    rw [bA_] at hc
    have h1:=hc.1
    simp only [bA_] at h1
    obtain ⟨⟨⟨h2,h3⟩,h4⟩,h5⟩:=h1
    have h3':xL_ rn j=none:=by
     split at h3
     ·rename_i hn;exact hn
     ·cases h3
    split at h5
    ·rename_i y m hx
     simp only [bA_] at h5
     exact .inr ⟨j,x,n,m,rfl,rfl,vX_ h2,h3',h4,by rw [Lf.beq_eq h5.1];exact hx,h5.2⟩
    ·cases h5
   ·cases hc
  ·exact ant_ hc2 r v hm
theorem aoa_ {s:St} {a0 i0:Nat} {xs:List Lf} {rn:Ren}:∀ {h:St},ae5_ s a0 i0 xs rn h=true→∀ r v,(r,v)∈h→∃ ag hs cs,v=.v ag hs∧s.get r=.v ag cs∧kj_ s a0 i0 xs rn cs hs=true∧(∀ j,r≠.o j)∧∀ b,r=.x b→b < i0
 | [],_,r,v,hm=>by simp at hm
 | (r0,v0) :: h,hc,r,v,hm=>by
  have hc2:ae5_ s a0 i0 xs rn h=true:=by
   unfold ae5_ at hc
   split at hc
   ·rename_i he;cases he
   ·rename_i he;cases he;simp only [bA_] at hc;exact hc.2
   ·cases hc
  rcases List.mem_cons.1 hm with hm | hm
  ·cases hm
   unfold ae5_ at hc
   split at hc
   ·rename_i he;cases he
   ·rename_i r' ag hs ps he
    cases he
    simp only [bA_] at hc
    obtain ⟨⟨h1,h2⟩,_⟩:=hc
    split at h2
    ·rename_i ag' cs hcs
     simp only [bA_,beq_iff_eq] at h2
     refine ⟨ag,hs,cs,rfl,by rw [h2.1];exact hcs,h2.2,(fun j he=>by subst he;cases h1),fun b he=>by subst he;exact vX_ h1⟩
    ·cases h2
   ·cases hc
  ·exact aoa_ hc2 r v hm
def Gh.meet (G:Gh) (i0:Nat) (rn:Ren):Gh where
 ω:=fun b=>match G.ω b with
  | some .f=>some .f
  | some (.x j)=>if j < i0 then some (.x j) else none
  | some (.o j p)=>match xL_ rn j with
   | some k=>some (.o k p)
   | none=>if j < i0 then some (.o j p) else none
  | none=>none
 β:=G.β
 H:=fun j=>match xP_ rn j with
  | some (some id)=>G.H id
  | some none=>fun _=>.slice none 0 0
  | none=>G.H j
 hs:=fun j p=>by
  rcases hr:xP_ rn j with _ | (_ | id)
  ·exact G.hs j p
  ·exact ⟨_,_,_,rfl⟩
  ·exact G.hs _ p
section
variable {M:Nat→Prop} {B:Base} {d:Nat} {up:Nat→Nat→Value} {ρ:List T} {G:Gh} {a:Act} {w:World} {s:St}
def Gh.frz (G:Gh) (id tk:Nat):Gh where
 ω:=fun b=>match G.ω b with
  | some (.o i p)=>if i=id then (match p with | []=>none | x :: p=>some (.o tk (x :: p))) else some (.o i p)
  | l=>l
 β:=G.β
 H:=fun i=>if i=tk then G.H id else G.H i
 hs:=fun i p=>by
  by_cases h:i=tk
  ·simp only [h,if_true];exact G.hs id p
  ·simp only [h,if_false];exact G.hs i p
theorem aK6_ {id tk:Nat} (ht:tk % 4=2) {I:Lb→Prop} (hI:∀ p,I (.o id p)):Keep I (fun i=>i=tk) G w (G.frz id tk) w:=by
 refine ⟨Nat.le_refl _,fun b _ hb=>⟨ac5_ hb (fun h0=>by simp [Gh.frz,h0]) fun l hl hq=>?_,rfl⟩,fun b _ hb=>by simp [Gh.frz,hb],fun b l hl hn=>⟨?_,rfl⟩,fun i hi=>⟨rfl,fun p _=>by simp [Gh.frz,hi]⟩⟩
 ·cases l with
  | o i p =>
   simp only [Gh.frz,hl]
   split
   ·cases p with
    | nil=>exact .inl rfl
    | cons x p=>exact .inr ⟨_,rfl,qt_2 ht⟩
   ·exact .inr ⟨_,rfl,hq⟩
  | _=>simp [qt] at hq
 ·cases l with
  | o i p =>
   have:i≠id:=fun e=>hn (e ▸ hI p)
   simp [Gh.frz,hl,this]
  | _=>simp [Gh.frz,hl]
theorem Rel.frz1 (h:Rel M B d up s ρ G a w) {id tk:Nat} {x:Lf} (hx:s.get (.o id)=.ob true x) (ht:tk % 4=2) (hM:¬ M tk) {M':Nat→Prop} (hM':∀ i,M i∨i=tk→M' i) :
  ∃ G',Rel M' B d up ((s.set (.o id) (.fz (.w tk x (.k (.int .i64 0))) x)).set (.o tk) (.tk x x)) ρ G' a w:=by
 have hMid:M id:=h.key id (.inr (by rw [hx];simp))
 have hne:id≠tk:=fun e=>hM (e ▸ hMid)
 obtain ⟨t,hev,hown⟩:=(by simpa only [hx] using h.ob id:RelObj G w ρ id (.ob true x))
 obtain ⟨xs,rfl⟩:∃ ys,t=.l ys:=by cases hown <;> exact ⟨_,rfl⟩
 have hrows:∀ i j ys,at2 xs i j=some (.l ys)→Own (G.frz id tk) w tk true [(i,j)] (.l ys):=by
  intro i j ys hat
  refine (hown.rows i j ys hat).move rfl (fun b q hb=>⟨?_,rfl⟩) fun q=>?_
  ·simp only [List.cons_append,List.nil_append] at hb ⊢
   simp [Gh.frz,hb]
  ·simp [Gh.frz]
 have hkey:∀ p,xz_ [(Res.o tk,SV.tk x x),(Res.o id,SV.fz (.w tk x (.k (.int .i64 0))) x)] (.o id p):=by
  intro p
  show St.look _ (Res.o id)≠none
  simp only [St.look]
  cases (Res.o tk).beq (.o id) <;> simp [(Res.beq_iff (r:=Res.o id)).2 rfl]
 have hHid:(G.frz id tk).H id []=G.H id []:=by simp [Gh.frz,hne]
 refine ⟨G.frz id tk,(h.objs (M':=M') (N:=fun i=>i=tk) (W:=[(.o tk,.tk x x),(.o id,.fz (.w tk x (.k (.int .i64 0))) x)]) (aK6_ ht hkey) (fun i hi=>by subst hi;exact hM) (fun i hi=>hM' i (.inl hi)) (fun r u hl=>?_) fun b l hb=>?_).congr fun r=>?_⟩
 ·rcases zv_ hl with ⟨e1,e2⟩ | hl
  ·subst e1 e2
   refine ⟨tk,rfl,⟨ht,xs,xs,hev,hev,rfl,fun i r hr _=>⟨hr,fun j ys hy=>hrows i j ys (by simp [at2,hr,hy])⟩⟩,hM' tk (.inr rfl),fun i hi=>by simp [zf_] at hi⟩
  ·rcases zv_ hl with ⟨e1,e2⟩ | hl
   ·subst e1 e2
    refine ⟨id,rfl,⟨.l xs,hev,?_,ht,xs,0,xs,hev,by simp [xg_,Lf.evo,scV],rfl,fun i r hr=>by rw [Nat.zero_add];exact hr,?_,fun _ b off k c hv=>?_⟩,hM' id (.inl hMid),fun i hi=>by simp [zf_] at hi;subst hi;exact hM' _ (.inr rfl)⟩
    ·rw [hHid]
     cases hown with
     | nil hH=>rw [hH];exact .nil
     | @l _ _ _ b wd cap arr elem cv g1 g2 g3 g4 g5 g6 g7 g8 g9 g10 g11 =>
      rw [g1]
      refine .l (cv:=cv) g6 g2.1 (u9_ (by simp [Gh.frz,g3])) (q3_ g4) (fun i j t ht=>by rw [wQ_ g4,Nat.zero_add];exact g7 i j t ht) fun i j t ht'=>?_
      cases t with
      | c v=>obtain ⟨hv,hs⟩:=g8 i j v ht';rw [hv];exact .c hs
      | l ys =>
       have e:=g10 i j ys ht' rfl
       simp only [List.nil_append] at e
       rw [e]
       have:=(hrows i j ys ht').denq (.inl ht) rfl
       rwa [show (G.frz id tk).H tk=G.H id by simp [Gh.frz]] at this
    ·rw [hHid]
     intro b off k c hv
     cases hown with
     | nil hH=>rw [hH] at hv;cases hv
     | @l _ _ _ b0 wd cap arr elem cv g1 g2 g3 g4 g5 g6 g7 g8 g9 g10 g11 =>
      rw [g1] at hv
      cases hv
      refine ⟨wd,g6,fun i j ys hat=>?_⟩
      rw [wQ_ g4,Nat.zero_add,g7 i j _ hat,g10 i j ys hat rfl]
      simp [Gh.frz]
    ·rw [hHid] at hv
     cases hown with
     | nil hH=>rw [hH] at hv;cases hv
     | l g1=>rw [g1] at hv;cases hv;rfl
   ·cases hl
 ·cases hg:G.ω b with
  | none=>simp [Gh.frz,hg] at hb
  | some l0 =>
   have hl0:=h.lab b l0 hg
   refine ⟨?_,hl0.2⟩
   cases l0 with
   | o i p =>
    simp only [Gh.frz,hg] at hb
    split at hb
    ·cases p with
     | nil=>cases hb
     | cons x p=>cases hb;exact hM' tk (.inr rfl)
    ·cases hb;exact hM' _ (.inl hl0.1)
   | _=>simp [Gh.frz,hg] at hb;subst hb;exact hM' _ (.inl hl0.1)
 ·simp only [St.sets]
theorem Rel.frzAt:∀ {js:List (Nat × Bool)} {cs:List Ce} {s:St} {ct:Ct} {G:Gh},Rel (fun i=>i < ct.i) B d up s ρ G a w →
  (∃ G',Rel (fun i=>i < (Go.Proofs.YtjimmglpkndemaaGreatC.frzAt s ct cs js).2.i) B d up (Go.Proofs.YtjimmglpkndemaaGreatC.frzAt s ct cs js).1 ρ G' a w)∧(Go.Proofs.YtjimmglpkndemaaGreatC.frzAt s ct cs js).2.a=ct.a∧ct.i≤(Go.Proofs.YtjimmglpkndemaaGreatC.frzAt s ct cs js).2.i
 | [],cs,s,ct,G,h=>⟨⟨G,h⟩,rfl,Nat.le_refl _⟩
 | (j,b) :: js,cs,s,ct,G,h=>by
  unfold Go.Proofs.YtjimmglpkndemaaGreatC.frzAt
  split
  ·rename_i id _
   split
   ·rename_i x hx
    cases he:Nat.beq (id % 2) 0 with
    | false=>exact Rel.frzAt h
    | true =>
     simp only [cond_true]
     have hle:=aHu_ ct.i
     obtain ⟨G',h'⟩:=h.frz1 hx (aBw_ ct.i) (by omega) (M':=fun i=>i < tkN ct.i+1) (fun i hi=>by rcases hi with hi | hi <;> omega)
     obtain ⟨g1,g2,g3⟩:=Rel.frzAt (js:=js) (cs:=cs) (ct:=⟨ct.a,tkN ct.i+1⟩) h'
     exact ⟨g1,g2,Nat.le_trans (by show ct.i≤tkN ct.i+1;omega) g3⟩
   ·exact Rel.frzAt h
  ·exact Rel.frzAt h
theorem Rel.frzJs {d':Nat}:∀ {js:Js} {s:St} {ct:Ct} {G:Gh},Rel (fun i=>i < ct.i) B d up s ρ G a w →
  (∃ G',Rel (fun i=>i < (Go.Proofs.YtjimmglpkndemaaGreatC.frzJs d' s ct js).2.i) B d up (Go.Proofs.YtjimmglpkndemaaGreatC.frzJs d' s ct js).1 ρ G' a w)∧(Go.Proofs.YtjimmglpkndemaaGreatC.frzJs d' s ct js).2.a=ct.a∧ct.i≤(Go.Proofs.YtjimmglpkndemaaGreatC.frzJs d' s ct js).2.i
 | [],s,ct,G,h=>⟨⟨G,h⟩,rfl,Nat.le_refl _⟩
 | (n,bx,.rows rj) :: l,s,ct,G,h=>by
  simp only [Go.Proofs.YtjimmglpkndemaaGreatC.frzJs]
  obtain ⟨⟨G',h'⟩,g2,g3⟩:=h.frzAt (js:=rj) (cs:=svCs (s.get (j8_ d' s n bx)))
  obtain ⟨f1,f2,f3⟩:=Rel.frzJs (d':=d') (js:=l) h'
  exact ⟨f1,f2.trans g2,Nat.le_trans g3 f3⟩
 | (n,bx,.drop) :: l,s,ct,G,h=>Rel.frzJs (js:=l) h
 | (n,bx,.phi _ _) :: l,s,ct,G,h=>Rel.frzJs (js:=l) h
theorem Rel.acts:∀ {l:List (Nat × Bool)} {s:St} {G:Gh},Rel M B d up s ρ G a w→∃ G',Rel M B d up (k6_ s l) ρ G' a w∧Less G G'
 | [],s,G,h=>⟨G,h,.refl _⟩
 | (id,all) :: l,s,G,h=>by
  simp only [k6_]
  split
  ·rename_i dp x hx
   cases all with
   | true=>obtain ⟨G',h1,h2⟩:=Rel.acts (l:=l) (h.thaw hx);exact ⟨G',h1,(G.free_less id true).trans h2⟩
   | false=>obtain ⟨G',h1,h2⟩:=Rel.acts (l:=l) (h.flat hx);exact ⟨G',h1,(G.free_less id false).trans h2⟩
  ·exact Rel.acts (l:=l) h
theorem Rel.thawAt:∀ {js:List (Nat × Bool)} {cs:List Ce} {s:St} {G:Gh},Rel M B d up s ρ G a w→∃ G',Rel M B d up (Go.Proofs.YtjimmglpkndemaaGreatC.thawAt s cs js) ρ G' a w
 | [],cs,s,G,h=>⟨G,h⟩
 | (j,all) :: js,cs,s,G,h=>by
  simp only [Go.Proofs.YtjimmglpkndemaaGreatC.thawAt]
  split
  ·split
   ·rename_i dp x hx
    cases all with
    | true=>exact Rel.thawAt (js:=js) (h.thaw hx)
    | false=>exact Rel.thawAt (js:=js) (h.flat hx)
   ·exact Rel.thawAt (js:=js) h
  ·exact Rel.thawAt (js:=js) h
theorem Rel.thawJs {d':Nat}:∀ {js:Js} {s:St} {G:Gh},Rel M B d up s ρ G a w→∃ G',Rel M B d up (Go.Proofs.YtjimmglpkndemaaGreatC.thawJs d' s js) ρ G' a w
 | [],s,G,h=>⟨G,h⟩
 | (n,bx,.rows js) :: l,s,G,h=>by
  simp only [Go.Proofs.YtjimmglpkndemaaGreatC.thawJs]
  obtain ⟨G',h'⟩:=h.thawAt (js:=js) (cs:=svCs (s.get (j8_ d' s n bx)))
  exact Rel.thawJs (js:=l) h'
 | (n,bx,.drop) :: l,s,G,h=>Rel.thawJs (js:=l) h
 | (n,bx,.phi _ _) :: l,s,G,h=>Rel.thawJs (js:=l) h
theorem arq_ {a0 i0 i1:Nat} {xs:List Lf} {rn:Ren} (hi:∀ j x,xP_ rn j=some x→j < i1) (hi01:i0≤i1):∀ {cs hs:List Ce},kj_ s a0 i0 xs rn cs hs=true→∀ j∈zl_ hs,j < i1
 | [],[],_,j,hj=>by simp [zl_] at hj
 | c :: cs,h :: hs,hc,j,hj=>by
  simp only [kj_,bA_] at hc
  rw [x5_] at hj
  rcases List.mem_append.1 hj with hj | hj
  ·have h1:=hc.1
   unfold aCy_ at h1
   rw [Bool.or_eq_true] at h1
   rcases h1 with h1 | h1
   ·simp only [bA_] at h1
    exact Nat.lt_of_lt_of_le (uA_ (n:=a0) (i:=i0) (by simp [kc_,h1.2]) j hj) hi01
   ·split at h1
    ·simp [zl_] at hj
    ·simp [zl_] at hj
    ·simp [zl_] at hj
    ·simp only [bA_] at h1
     have h2:=h1.2
     split at h2
     ·rename_i hro;simp [zl_] at hj;subst hj;exact hi _ _ hro
     ·cases h2
    ·simp only [bA_] at h1
     have h2:=h1.2
     split at h2
     ·rename_i hro;simp [zl_] at hj;subst hj;exact hi _ _ hro
     ·cases h2
    ·simp [zl_] at hj
    ·cases h1
  ·exact arq_ hi hi01 hc.2 j hj
 | [],_ :: _,hc,_,_=>by simp [kj_] at hc
 | _ :: _,[],hc,_,_=>by simp [kj_] at hc
theorem aqq_ {G':Gh} {a0 i0:Nat} {xs:List Lf} {rn:Ren} {ρ0 e:List T} (hr:Rel M B d up s (ρ0++e) G a w) (hl:ρ0.length=a0) (k:Keep (fun l=>True) (fun j=>¬ j < i0) G w G' w)
  (hH:∀ j x,xP_ rn j=some x→G'.H j=match x with | some id=>G.H id | none=>fun _=>.slice none 0 0) :
  ∀ {cs hs:List Ce} {vs:List Value},kj_ s a0 i0 xs rn cs hs=true→RelCs G w (ρ0++e) cs vs→RelCs G' w (ρ0++xs.map (Lf.ev (ρ0++e))) hs vs
 | [],[],[],_,_=>trivial
 | c :: cs,h :: hs,v :: vs,hc,hrel=>by
  simp only [kj_,bA_] at hc
  refine ⟨?_,aqq_ hr hl k hH hc.2 hrel.2⟩
  have hagr:Agr a0 (ρ0++e) (ρ0++xs.map (Lf.ev (ρ0++e))):=fun m hm=>by
   rw [List.getElem?_append_left (by omega),List.getElem?_append_left (by omega)]
  have h1:=hc.1
  have hrc:=hrel.1
  clear hc hrel
  unfold aCy_ at h1
  rw [Bool.or_eq_true] at h1
  rcases h1 with h1 | h1
  ·simp only [bA_] at h1
   have:=Ce.beq_eq h1.1
   subst this
   have hb:∀ j∈zl_ [h],j < i0:=uA_ (n:=a0) (by simp [kc_,h1.2])
   exact (hrc.agr hagr h1.2).keep k fun j hj hn=>hn (hb j hj)
  ·split at h1
   ·rename_i n x
    obtain ⟨t,ht,hd⟩:=hrc
    exact ⟨t,by rw [← Lf.evo_ev ht];exact jt_ h1 hl,hd.keep k.size k.free⟩
   ·rename_i n
    have hv:v=.slice none 0 0:=hrc
    subst hv
    exact ⟨.l [],jt_ h1 hl,.nil⟩
   ·rename_i n id
    split at h1
    ·rename_i x hx
     have hob:=hr.ob id
     rw [hx] at hob
     obtain ⟨t,ht,hd,_⟩:=hob
     obtain ⟨p,hp,hv⟩:=hrc
     simp only [z6_,oI_] at hp
     subst hp
     rw [hv]
     exact ⟨t,by rw [← Lf.evo_ev ht];exact jt_ h1 hl,hd.keep k.size k.free⟩
    ·cases h1
   ·rename_i j
    simp only [bA_] at h1
    have h2:=h1.2
    split at h2
    ·rename_i hro
     have hv:v=.slice none 0 0:=hrc
     subst hv
     exact ⟨[],rfl,by rw [hH _ _ hro]⟩
    ·cases h2
   ·rename_i j id
    simp only [bA_] at h1
    have h2:=h1.2
    split at h2
    ·rename_i id' hro
     have:=nB_ h2
     subst this
     obtain ⟨p,hp,hv⟩:=hrc
     simp only [z6_,oI_] at hp
     subst hp
     exact ⟨[],rfl,by rw [hH _ _ hro];exact hv⟩
    ·cases h2
   ·exact hrc.one
   ·cases h1
 | [],_ :: _,_,hc,_=>by simp [kj_] at hc
 | _ :: _,[],_,hc,_=>by simp [kj_] at hc
 | [],[],_ :: _,_,h=>h.elim
 | _ :: _,_ :: _,[],_,h=>h.elim
theorem aA7_ {h:Head} {xs:List Lf} {d':Nat} {ρ0 e:List T} (hm:Go.Proofs.YtjimmglpkndemaaGreatC.meet d' h s=some xs) (hr:Rel M B d up s (ρ0++e) G a w) (hl:ρ0.length=h.c0.a) (hbt:∀ i b,B.bt i=some b→i < h.c0.i) :
  (ρ0++xs.map (Lf.ev (ρ0++e))).length=h.ct.a∧∃ G',Rel (fun i=>i < h.ct.i) B d up h.st (ρ0++xs.map (Lf.ev (ρ0++e))) G' a w:=by
 unfold Go.Proofs.YtjimmglpkndemaaGreatC.meet at hm
 simp only [oB_] at hm
 obtain ⟨⟨xs',rn⟩,_,hm⟩:=hm
 obtain ⟨G1,hr,_⟩:=hr.acts (l:=abi_ d' h.s0 s h.js)
 generalize k6_ s (abi_ d' h.s0 s h.js)=s1 at hm hr
 cases hc:apz_ h s1 xs' rn with
 | false=>simp [hc] at hm
 | true =>
  simp only [hc,cond_true,oI_] at hm
  subst hm
  unfold apz_ at hc
  simp only [bA_] at hc
  obtain ⟨⟨⟨⟨⟨⟨c1,c2⟩,c3⟩,c4⟩,c5⟩,c6⟩,c7⟩:=hc
  have hlen:=nB_ c1
  have h01:=Nat.le_of_ble_eq_true c3
  have hpos:=vX_ c2
  have hren:=anz_ c4
  refine ⟨by rw [List.length_append,List.length_map,hl,hlen],G1.meet h.c0.i rn,?_⟩
  have hagr:Agr h.c0.a (ρ0++e) (ρ0++xs'.map (Lf.ev (ρ0++e))):=fun m hm=>by
   rw [List.getElem?_append_left (by omega),List.getElem?_append_left (by omega)]
  have hnone0:∀ b,G1.ω b=none→(G1.meet h.c0.i rn).ω b=none:=fun b hb=>by simp [Gh.meet,hb]
  have hnone:∀ b,G1.q b=none→(G1.meet h.c0.i rn).q b=none:=fun b hb=>by
   refine ac5_ hb (hnone0 b) fun l hl hq=>?_
   cases l with
   | o j p =>
    simp only [Gh.meet,hl]
    cases hro:xL_ rn j with
    | some k =>
     refine .inr ⟨.o k p,rfl,qt_o (ak9_ c4 _ _ (jV_ hro)) fun e=>?_⟩
     subst e
     rw [kg_ (amy_ c4 _ _ (jV_ hro))] at hq
     cases hq
    | none =>
     by_cases hj:j < h.c0.i
     ·exact .inr ⟨.o j p,by simp [hj],hq⟩
     ·exact .inl (by simp [hj])
   | _=>simp [qt] at hq
  have hHn:∀ j,j < h.c0.i→(G1.meet h.c0.i rn).H j=G1.H j:=by
   intro j hj
   have:xP_ rn j=none:=by
    cases hro:xP_ rn j with
    | none=>rfl
    | some x=>have:=(hren j x (jD_ hro)).1;omega
   simp [Gh.meet,this]
  have hHr:∀ j x,xP_ rn j=some x→(G1.meet h.c0.i rn).H j=match x with | some id=>G1.H id | none=>fun _=>.slice none 0 0:=by
   intro j x hj
   show (match xP_ rn j with | some (some id)=>G1.H id | some none=>_ | none=>G1.H j)=_
   rw [hj]
   cases x <;> rfl
  have kI:Keep (fun l=>match l with | .f=>False | .x j=>¬ j < h.c0.i | .o j _=>xL_ rn j≠none∨¬ j < h.c0.i) (fun j=>¬ j < h.c0.i) G1 w (G1.meet h.c0.i rn) w:=by
   refine ⟨Nat.le_refl _,fun b _ hb=>⟨hnone b hb,rfl⟩,fun b _ hb=>hnone0 b hb,fun b l hb hl=>⟨?_,rfl⟩,fun j hj=>⟨rfl,fun p _=>by rw [hHn j (Decidable.not_not.1 hj)]⟩⟩
   cases l with
   | f=>simp [Gh.meet,hb]
   | x j=>simp only [Gh.meet,hb];rw [if_pos (Decidable.not_not.1 hl)]
   | o j p =>
    have h1:xL_ rn j=none:=by
     cases hro:xL_ rn j with
     | none=>rfl
     | some k=>exact absurd (.inl (by rw [hro];simp)) hl
    have h2:j < h.c0.i:=Decidable.not_not.1 fun hn=>hl (.inr hn)
    simp only [Gh.meet,hb,h1];rw [if_pos h2]
  have kT:=kI.mono (I':=fun _=>True) (fun _ _=>trivial) fun _ hn=>hn
  have hown:∀ r v,(r,v)∈h.own→∃ j,r=.o j∧j < h.ct.i∧RelObj (G1.meet h.c0.i rn) w (ρ0++xs'.map (Lf.ev (ρ0++e))) j v∧zf_ v=[]:=by
   intro r v hm
   rcases ant_ c6 r v hm with ⟨j,dp,n,rfl,rfl,hcase⟩ | ⟨j,x,n,m,rfl,rfl,h1,h2,h3,h4,h5⟩
   case inr =>
    refine ⟨j,rfl,by omega,?_,rfl⟩
    have hob:=hr.ob j
    rw [h4] at hob
    obtain ⟨g0,F,u,g1,g2,g3,g4⟩:=hob
    refine ⟨g0,F,u,by rw [← Lf.evo_agr hagr h3];exact g1,by rw [← Lf.evo_ev g2];exact jt_ h5 hl,g3,fun i r hi hne=>⟨(g4 i r hi hne).1,fun c ys hy=>((g4 i r hi hne).2 c ys hy).keep kI (fun p hp=>?_) fun hn=>hn h1⟩⟩
    rcases hp with hp | hp
    ·exact hp h2
    ·exact hp h1
   rcases hcase with ⟨id,x,h1,h2,h3⟩ | ⟨h1,h3⟩ | ⟨x,h1,h2,h3,h4,h5⟩
   ·obtain ⟨q1,q2,q3⟩:=hren j (some id) (jD_ h1)
    refine ⟨j,rfl,q2,?_,rfl⟩
    have hob:=hr.ob id
    rw [h2] at hob
    obtain ⟨t,ht,ho⟩:=hob
    refine ⟨t,by rw [← Lf.evo_ev ht];exact jt_ h3 hl,?_⟩
    have hto:=q3 id rfl
    have hω:∀ c p,G1.ω c=some (.o id p)→(G1.meet h.c0.i rn).ω c=some (.o j p):=fun c p hcp=>by simp [Gh.meet,hcp,hto]
    have hHj:=hHr j _ h1
    cases dp with
    | true=>exact ho.move rfl (fun c p hcp=>⟨hω c p hcp,rfl⟩) fun p=>by rw [hHj]
    | false=>exact ho.flatMove (fun c hcp=>hω c [] hcp) (by rw [hHj]) hnone
   ·obtain ⟨q1,q2,_⟩:=hren j none (jD_ h1)
    exact ⟨j,rfl,q2,⟨.l [],jt_ h3 hl,.nil (by rw [hHr j _ h1])⟩,rfl⟩
   ·refine ⟨j,rfl,by omega,?_,rfl⟩
    have hob:=hr.ob j
    rw [h4] at hob
    obtain ⟨t,ht,ho⟩:=hob
    refine ⟨t,by rw [← Lf.evo_ev ht];exact jt_ h5 hl,ho.keep kI (fun p hp=>?_) fun hn=>hn h2⟩
    rcases hp with hp | hp
    ·exact hp h3
    ·exact hp h2
  have hnew:∀ r v,(r,v)∈h.new→∃ ag hs cs,v=.v ag hs∧s1.get r=.v ag cs∧(∀ vs,RelCs G1 w (ρ0++e) cs vs→RelCs (G1.meet h.c0.i rn) w (ρ0++xs'.map (Lf.ev (ρ0++e))) hs vs)∧(∀ j∈zf_ v,j < h.ct.i)∧(∀ j,r≠.o j)∧∀ b,r=.x b→b < h.c0.i:=by
   intro r v hm
   obtain ⟨ag,hs,cs,rfl,h1,h2,h3,h4⟩:=aoa_ c7 r v hm
   exact ⟨ag,hs,cs,rfl,h1,fun vs hv=>aqq_ hr hl kT hHr h2 hv,fun j hj=>arq_ (i1:=h.ct.i) (fun j x hj=>(hren j x (jD_ hj)).2.1) h01 h2 j hj,h3,h4⟩
  have hst:∀ r,h.st.get r=.un∨(r,h.st.get r)∈h.kept∨(r,h.st.get r)∈h.own∨(r,h.st.get r)∈h.new:=by
   intro r
   rw [St.look_get]
   cases hlk:h.st.look r with
   | none=>exact .inl rfl
   | some v =>
    have:=agr_ hlk
    simp only [Head.st,List.mem_append] at this
    exact .inr (by simpa [or_assoc] using this)
  have hkept:=alh_ c5
  refine ⟨fun x n hx=>?_,fun b=>?_,fun i=>?_,fun r i hi=>?_,fun i hi=>?_,fun b l hb=>?_,hr.dn,?_,fun i b hb=>⟨Nat.lt_of_lt_of_le (hbt i b hb) h01,(hr.bt i b hb).2⟩⟩
  ·rcases hst (.t x n) with hu | hm | hm | hm
   ·rw [hu];trivial
   ·rcases hkept _ _ hm with hu | ⟨he,hb,_,_⟩
    ·rw [hu];trivial
    ·rw [he]
     rw [he] at hb
     exact ((hr.tm x n hx).agr hagr hb).keep kT fun j hj hn=>hn (SV.bel_ids hb j hj)
   ·obtain ⟨j,e1,_⟩:=hown _ _ hm;cases e1
   ·obtain ⟨ag,hs,cs,e1,e2,e3,_⟩:=hnew _ _ hm
    rw [e1]
    have:=hr.tm x n hx
    rw [e2] at this
    cases ag with
    | true=>obtain ⟨vs,g1,g2⟩:=this;exact ⟨vs,g1,e3 vs g2⟩
    | false =>
     obtain ⟨c,rfl,g2,g3⟩:=this
     have:=e3 [tmv up d a x n] ⟨g2,trivial⟩
     match hs,this with
     | [c'],this=>exact ⟨c',rfl,this.1,g3⟩
  ·rcases hst (.x b) with hu | hm | hm | hm
   ·rw [hu];trivial
   ·rcases hkept _ _ hm with hu | ⟨he,hb,_,hxb⟩
    ·rw [hu];trivial
    ·rw [he]
     rw [he] at hb
     have hlt:=hxb b rfl
     exact ((hr.bx b).agr hagr hb).keep kI (fun hf=>hf hlt) (fun hn=>hn hlt) fun j hj hn=>hn (SV.bel_ids hb j hj)
   ·obtain ⟨j,e1,_⟩:=hown _ _ hm;cases e1
   ·obtain ⟨ag,hs,cs,e1,e2,e3,_,_,e4⟩:=hnew _ _ hm
    rw [e1]
    have:=hr.bx b
    rw [e2] at this
    obtain ⟨g1,arr,elem,g2,g3⟩:=this
    refine ⟨?_,arr,elem,g2,e3 _ g3⟩
    show (G1.meet h.c0.i rn).ω (G1.β b)=_
    simp only [Gh.meet,g1]
    rw [if_pos (e4 b rfl)]
  ·rcases hst (.o i) with hu | hm | hm | hm
   ·rw [hu];trivial
   ·rcases hkept _ _ hm with hu | ⟨he,hb,hoi,_⟩
    ·rw [hu];trivial
    ·rw [he]
     rw [he] at hb
     obtain ⟨q1,q2⟩:=hoi i rfl
     refine ((hr.ob i).agr hagr hb).keep kI (fun p hp=>?_) (fun hn=>hn q1) fun j hj hn=>hn (SV.bel_ids hb j hj)
     rcases hp with hp | hp
     ·exact hp q2
     ·exact hp q1
   ·obtain ⟨j,e1,_,e2,_⟩:=hown _ _ hm;cases e1;exact e2
   ·obtain ⟨ag,hs,cs,e1,e2,e3,_,e4,_⟩:=hnew _ _ hm;exact absurd rfl (e4 i)
  ·rcases hst r with hu | hm | hm | hm
   ·rw [hu] at hi;simp [zf_] at hi
   ·rcases hkept _ _ hm with hu | ⟨he,hb,_,_⟩
    ·rw [hu] at hi;simp [zf_] at hi
    ·exact Nat.lt_of_lt_of_le (SV.bel_ids hb i hi) h01
   ·obtain ⟨j,_,_,_,e2⟩:=hown _ _ hm;rw [e2] at hi;cases hi
   ·obtain ⟨ag,hs,cs,e1,e2,e3,e4,_⟩:=hnew _ _ hm;exact e4 i hi
  ·have key:∀ r:Res,(r=.x i∨r=.o i)→h.st.get r≠.un→i < h.ct.i:=by
    intro r hri hne
    rcases hst r with hu | hm | hm | hm
    ·exact absurd hu hne
    ·rcases hkept _ _ hm with hu | ⟨he,hb,g1,g2⟩
     ·exact absurd hu hne
     ·rcases hri with rfl | rfl
      ·exact Nat.lt_of_lt_of_le (g2 i rfl) h01
      ·exact Nat.lt_of_lt_of_le (g1 i rfl).1 h01
    ·obtain ⟨j,e1,e2,_⟩:=hown _ _ hm
     rcases hri with rfl | rfl
     ·cases e1
     ·cases e1;exact e2
    ·obtain ⟨ag,hs,cs,e1,e2,e3,_,e4,e5⟩:=hnew _ _ hm
     rcases hri with rfl | rfl
     ·exact Nat.lt_of_lt_of_le (e5 i rfl) h01
     ·exact absurd rfl (e4 i)
   rcases hi with hi | hi
   ·exact key _ (.inl rfl) hi
   ·exact key _ (.inr rfl) hi
  ·cases hgb:G1.ω b with
   | none=>simp [Gh.meet,hgb] at hb
   | some l' =>
    have hlt:=(hr.lab b l' hgb).2
    refine ⟨?_,hlt⟩
    cases l' with
    | f=>simp [Gh.meet,hgb] at hb;subst hb;exact hpos
    | x j =>
     simp only [Gh.meet,hgb] at hb
     split at hb
     ·rename_i hj;cases hb;exact Nat.lt_of_lt_of_le hj h01
     ·cases hb
    | o j p =>
     simp only [Gh.meet,hgb] at hb
     split at hb
     ·rename_i k hk
      cases hb
      exact (hren k _ (jV_ hk)).2.1
     ·split at hb
      ·rename_i hj;cases hb;exact Nat.lt_of_lt_of_le hj h01
      ·cases hb
  ·obtain ⟨b1,b2,b3,b4,b5,b6⟩:=hr.base
   refine ⟨b1,b2,b3,b4,fun b hb h0=>⟨hnone0 b (b5 b hb h0).1,(b5 b hb h0).2⟩,fun b hb=>⟨by simp [Gh.meet,(b6 b hb).1],(b6 b hb).2⟩⟩
end
def exOf:Ex→Exit
 | .normal=>.normal
 | .exit id=>.exit id
 | .ret=>.ret
section
variable {B:Base} {f:Fr} {S:Nat→Sem1} {P:Program} {cx:Cx} {into:Into} {fid rid:Nat} {R:Nat} {out:List T}
theorem Snd.ext {Z Z':Zb} {k:KP} {Ψ:Act→World→Prop} (h:Snd S R out B f Z k Ψ) (hK:∃ pre,Z'.K=pre++Z.K) (hρ:∃ e,Z'.ρ=Z.ρ++e):Snd S R out B f Z' k Ψ:=by
 rintro lv s ct fs p a w hk ⟨K,ρ,G,h1,h2,⟨pre,h3⟩,⟨e,h4⟩,h5⟩
 obtain ⟨pre',h6⟩:=hK
 obtain ⟨e',h7⟩:=hρ
 exact h lv s ct fs p a w hk ⟨K,ρ,G,h1,h2,⟨pre++pre',by rw [h3,h6,List.append_assoc]⟩,⟨e'++e,by rw [h4,h7,List.append_assoc]⟩,h5⟩
theorem aBi_ {K:List Sem1} {ρ:List T} {J:Sem1} {h:Head} {lv tag:Nat} {Ψ:Act→World→Prop} (hlv:K.length=lv) (hl:ρ.length=h.c0.a) (hbt:∀ i b,B.bt i=some b→i < h.c0.i)
  (hJ:∀ ts a w G,J ts=some out→(ρ++ts).length=h.ct.a→Rel (fun i=>i < h.ct.i) B f.d f.up h.st (ρ++ts) G a w→a.tmps.size=f.nt→Ψ a w):Snd S R out B f ⟨J :: K,ρ⟩ (goK f.d h lv tag) Ψ:=by
 rintro lv2 s' ct' fs' p a w hk ⟨K2,ρ2,G,h1,h2,⟨pre,h3⟩,⟨e,h4⟩,h5,h6,h7,h8,_⟩
 unfold goK at hk
 split at hk
 ·rename_i xs hm
  cases hk
  simp only at h3 h4
  subst h4
  obtain ⟨g1,G',g2⟩:=aA7_ hm h7 hl hbt
  simp only [PL.den] at h1
  have hidx:K2[lv2 - lv - 1]?=some J:=by
   rw [h3]
   have:K2.length=pre.length+(K.length+1):=by rw [h3];simp
   rw [List.getElem?_append_right (by omega),show lv2 - lv - 1 - pre.length=0 by omega]
   rfl
  rw [hidx] at h1
  exact hJ _ a w G' h1 g1 g2 h8
 ·cases hk;cases h1
theorem apn_ {Z:Zb} {K0:KP} {h:Head} {lv:Nat} {fs:yT_} {k b:PL} {a:Act} {w:World} {s:St} {ct:Ct} {js:Js} {Ψ:Act→World→Prop} (hh:h=jg_ f.d s ct js) (hk:K0 lv h.st h.ct fs=some k) (hS:Snd S R out B f Z K0 Ψ)
  (hat:At S R out B f Z XT (.join k b) lv s ct fs a w):∃ Z',(∃ pre,Z'.K=pre++Z.K)∧(∃ e,Z'.ρ=Z.ρ++e)∧At S R out B f Z' XT b (lv+1) s ct fs a w∧∀ tag,Snd S R out B f Z' (goK f.d h lv tag) Ψ:=by
 obtain ⟨K,ρ,G,h1,h2,⟨pre,h3⟩,⟨e,h4⟩,h5,h6,h7,h8,_⟩:=hat
 simp only [PL.den] at h1
 have hc0:h.c0=ct:=by rw [hh];rfl
 refine ⟨⟨(fun ts=>k.den S R K (ρ++ts)) :: K,ρ⟩,⟨_ :: pre,by simp [h3];rfl⟩,⟨e,h4⟩,⟨_,ρ,G,h1,by simp [h2],⟨[],rfl⟩,⟨[],by simp⟩,h5,h6,h7,h8,trivial⟩,fun tag=>?_⟩
 refine aBi_ h2 (by rw [hc0];exact h5) (fun i b hb=>by rw [hc0];exact (h7.bt i b hb).1) fun ts a w G' hd hl hr hs=>?_
 exact hS lv h.st h.ct fs k a w hk ⟨K,ρ++ts,G',hd,h2,⟨pre,h3⟩,⟨e++ts,by rw [h4,List.append_assoc]⟩,hl,h6.ext,hr,hs,trivial⟩
theorem At.at {Z:Zb} {X:Gh→World→List T→Prop} {p:PL} {lv:Nat} {s:St} {ct:Ct} {fs:yT_} {a:Act} {w:World} (h:At S R out B f Z X p lv s ct fs a w):True:=trivial
theorem aBm_ {Z:Zb} {c:Operand} {x y:Code} {tag lv:Nat} {s:St} {ct:Ct} {fs:yT_} {p:PL} {a:Act} {w:World} {Q:Exit→Act→World→Prop} {cx' cy':yT_→Option PL}
  (h:atd_ tag (opnd f.d s.get c) cx' cy' s fs=some p) (hat:At S R out B f Z XT p lv s ct fs a w) (hx:∀ fs p,cx' fs=some p→At S R out B f Z XT p lv s ct fs a w→x.wp P Q a w)
  (hy:∀ fs p,cy' fs=some p→At S R out B f Z XT p lv s ct fs a w→y.wp P Q a w):(Code.cond c x y).wp P Q a w:=by
 obtain ⟨K,ρ,G,h1,h2,h3,h4,h5,h6,h7,h8,_⟩:=hat
 have hrel:=(v6_ h7 c).1
 unfold atd_ at h
 split at h
 ·rename_i b hd
  have hc:=an4_ hd hrel h6
  refine wp_cond hc ?_
  cases b with
  | true=>exact hx fs p h ⟨K,ρ,G,h1,h2,h3,h4,h5,h6,h7,h8,trivial⟩
  | false=>exact hy fs p h ⟨K,ρ,G,h1,h2,h3,h4,h5,h6,h7,h8,trivial⟩
 ·rename_i n hd
  simp only [oB_,oI_] at h
  obtain ⟨px,hpx,py,hpy,rfl⟩:=h
  obtain ⟨b,hb,hp⟩:=aps_ h1
  have hc:=an4_ (akm_ (b:=b) hd) hrel (h6.cons hb)
  refine wp_cond hc ?_
  cases b with
  | true=>exact hx _ px hpx ⟨K,ρ,G,hp,h2,h3,h4,h5,h6.cons hb,h7,h8,trivial⟩
  | false=>exact hy _ py hpy ⟨K,ρ,G,hp,h2,h3,h4,h5,h6.cons hb,h7,h8,trivial⟩
 ·cases h;cases h1
 ·cases h;cases h1
theorem aBx_ (E:Env P cx S) (hI:anh_ P S R out B into) (hmx:P.follows .mixedOrders=true):∀ (c:Code) (blk lv:Nat) (s:St) (ct:Ct) (fs:yT_) (KE:KE) (p:PL) (a:Act) (w:World) (Z:Zb) (Q:Exit→Act→World→Prop),
  qk_ f.nt c=true→comp cx into fid f.d c blk lv s ct fs KE=some p→At S R out B f Z XT p lv s ct fs a w→(∀ e,Snd S R out B f Z (KE e) (Q (exOf e)))→c.wp P Q a w:=by
 intro c
 induction c with
 | skip=>intro blk lv s ct fs KE p a w Z Q _ h hat hK;exact wp_skip (hK .normal lv s ct fs p a w h hat)
 | label l=>intro blk lv s ct fs KE p a w Z Q _ h hat hK;exact wp_label (hK .normal lv s ct fs p a w h hat)
 | seq x y ihx ihy =>
  intro blk lv s ct fs KE p a w Z Q hd h hat hK
  simp only [qk_,bA_] at hd
  refine wp_seq (ihx 0 lv s ct fs _ p a w Z _ hd.1 h hat fun e=>?_)
  cases e with
  | normal=>exact fun lv s ct fs p a w hk hat=>ihy 0 lv s ct fs KE p a w Z Q hd.2 hk hat hK
  | exit id=>exact hK (.exit id)
  | ret=>exact hK .ret
 | region id ops draw =>
  intro blk lv s ct fs KE p a w Z Q hd h hat hK
  have hn:∀ o∈ops.toList,∀ n,o.dst=some n→n < f.nt:=by
   intro o ho n hn
   have:=List.all_eq_true.1 hd o ho
   rw [hn] at this
   exact vX_ this
  have hat':∀ p,At S R out B f Z XT p lv s ct fs a w→At S R out B f Z XT p lv (aE8_ cx fid f.d id s) ct fs a w:=by
   rintro p ⟨K,ρ,G,h1,h2,h3,h4,h5,h6,h7,h8,_⟩
   unfold aE8_
   cases cx.hint fid 4 id with
   | none=>exact ⟨K,ρ,G,h1,h2,h3,h4,h5,h6,h7,h8,trivial⟩
   | some js =>
    obtain ⟨G',h7'⟩:=h7.thawJs (js:=js) (d':=f.d)
    exact ⟨K,ρ,G',h1,h2,h3,h4,h5,h6,h7',h8,trivial⟩
  have hat'':∀ (s0:St) p,At S R out B f Z XT p lv s0 ct fs a w→At S R out B f Z XT p lv (frz5 cx fid f.d id s0 ct).1 (frz5 cx fid f.d id s0 ct).2 fs a w:=by
   rintro s0 p ⟨K,ρ,G,h1,h2,h3,h4,h5,h6,h7,h8,_⟩
   unfold frz5
   cases cx.hint fid 5 id with
   | none=>exact ⟨K,ρ,G,h1,h2,h3,h4,h5,h6,h7,h8,trivial⟩
   | some js =>
    obtain ⟨⟨G',h7'⟩,g2,_⟩:=h7.frzJs (js:=js) (d':=f.d)
    exact ⟨K,ρ,G',h1,h2,h3,h4,h5.trans g2.symm,h6,h7',h8,trivial⟩
  have hat2:=hat'' _ p (hat' p hat)
  simp only [comp] at h
  split at h
  ·exact ark_ E hI hmx hn (hK .normal) h hat2
  ·rename_i js hj
   simp only [oB_,oI_] at h
   obtain ⟨k,hk,b,hb,rfl⟩:=h
   obtain ⟨Z',z1,z2,hat3,hS⟩:=apn_ rfl hk (hK .normal) hat2
   exact ark_ E hI hmx hn (hS _) hb hat3
 | cond c x y ihx ihy =>
  intro blk lv s ct fs KE p a w Z Q hd h hat hK
  simp only [qk_,bA_] at hd
  simp only [comp] at h
  split at h
  ·exact aBm_ h hat (fun fs p hp hat=>ihx 0 lv s ct fs KE p a w Z Q hd.1 hp hat hK) (fun fs p hp hat=>ihy 0 lv s ct fs KE p a w Z Q hd.2 hp hat hK)
  ·rename_i js hj
   simp only [oB_,oI_] at h
   obtain ⟨k,hk,b,hb,rfl⟩:=h
   obtain ⟨Z',z1,z2,hat3,hS⟩:=apn_ rfl hk (hK .normal) hat
   have hKE:∀ tag e,Snd S R out B f Z' (anv_ f.d (jg_ f.d s ct js) lv tag KE e) (Q (exOf e)):=by
    intro tag e
    cases e with
    | normal=>exact hS tag
    | exit id=>exact (hK (.exit id)).ext z1 z2
    | ret=>exact (hK .ret).ext z1 z2
   exact aBm_ hb hat3 (fun fs p hp hat=>ihx 0 (lv+1) s ct fs _ p a w Z' Q hd.1 hp hat (hKE _)) (fun fs p hp hat=>ihy 0 (lv+1) s ct fs _ p a w Z' Q hd.2 hp hat (hKE _))
 | block id body ih =>
  intro blk lv s ct fs KE p a w Z Q hd h hat hK
  have blk_snd:∀ (Z:Zb) (KE':Go.Proofs.YtjimmglpkndemaaGreatC.KE),(∀ e,Snd S R out B f Z (KE' e) (Q (exOf e)))→∀ e,Snd S R out B f Z (apd_ id KE' e) (Exit.inBlock id Q (exOf e)):=by
   intro Z KE' hK e
   cases e with
   | normal=>exact hK .normal
   | ret=>exact hK .ret
   | exit i =>
    intro lv s ct fs p a w hk hat
    simp only [apd_] at hk
    show (if i=id then Q .normal a w else Q (.exit i) a w)
    cases hb:Nat.beq i id with
    | true =>
     rw [hb] at hk
     rw [if_pos (nB_ hb)]
     exact hK .normal lv s ct fs p a w hk hat
    | false =>
     rw [hb] at hk
     rw [if_neg (fun e=>by subst e;simp at hb)]
     exact hK (.exit i) lv s ct fs p a w hk hat
  simp only [comp] at h
  split at h
  ·exact wp_block (ih id lv s ct fs _ p a w Z _ hd h hat (blk_snd Z KE hK))
  ·rename_i js hj
   simp only [oB_,oI_] at h
   obtain ⟨k,hk,b,hb,rfl⟩:=h
   obtain ⟨Z',z1,z2,hat3,hS⟩:=apn_ rfl hk (hK .normal) hat
   refine wp_block (ih id (lv+1) s ct fs _ b a w Z' _ hd hb hat3 (blk_snd Z' _ fun e=>?_))
   cases e with
   | normal=>exact hS _
   | exit id=>exact (hK (.exit id)).ext z1 z2
   | ret=>exact (hK .ret).ext z1 z2
 | loop body ih =>
  intro blk lv s ct fs KE p a w Z Q hd h hat hK
  simp only [comp] at h
  split at h
  ·cases h;obtain ⟨K,ρ,G,h1,_⟩:=hat;cases h1
  ·rename_i js hj
   split at h
   ·cases h;obtain ⟨K,ρ,G,h1,_⟩:=hat;cases h1
   ·rename_i xs hm
    simp only [oB_,oI_] at h
    obtain ⟨b,hb,rfl⟩:=h
    obtain ⟨K,ρ,G,h1,h2,⟨pre,h3⟩,⟨e,h4⟩,h5,h6,h7,h8,_⟩:=hat
    have hbt:∀ i b,B.bt i=some b→i < (jg_ f.d s ct js).c0.i:=fun i b hb=>(h7.bt i b hb).1
    have key:∀ (n:Nat) (ts:List T) (a:Act) (w:World) (G:Gh),iter (fun self ts=>b.den S R (self :: K) (ρ++ts)) n ts=some out→(ρ++ts).length=(jg_ f.d s ct js).ct.a →
      Rel (fun i=>i < (jg_ f.d s ct js).ct.i) B f.d f.up (jg_ f.d s ct js).st (ρ++ts) G a w→a.tmps.size=f.nt→Code.rounds P body Q n a w:=by
     intro n
     induction n with
     | zero=>intro ts a w G hi;cases hi
     | succ n ihn =>
      intro ts a w G hi hl hr hs
      rw [rounds_succ]
      refine ih 0 (lv+1) _ _ fs _ b a w ⟨iter (fun self ts=>b.den S R (self :: K) (ρ++ts)) n :: K,ρ⟩ _ hd hb ⟨_,ρ++ts,G,hi,by simp [h2],⟨[],rfl⟩,⟨ts,rfl⟩,hl,h6.ext,hr,hs,trivial⟩ fun e'=>?_
      cases e' with
      | normal=>exact aBi_ h2 h5 hbt fun ts a w G hJ hl hr hs=>ihn ts a w G hJ hl hr hs
      | exit id=>exact (hK (.exit id)).ext ⟨_ :: pre,by simp [h3];rfl⟩ ⟨e,h4⟩
      | ret=>exact (hK .ret).ext ⟨_ :: pre,by simp [h3];rfl⟩ ⟨e,h4⟩
    simp only [PL.den] at h1
    obtain ⟨g1,G',g2⟩:=aA7_ (e:=[]) hm (by rw [List.append_nil];exact h7) h5 hbt
    rw [List.append_nil] at g1 g2
    exact wp_loop_rounds R (key R _ a w G' h1 g1 g2 h8)
 | exit id=>intro blk lv s ct fs KE p a w Z Q _ h hat hK;exact wp_exit (hK (.exit id) lv s ct fs p a w h hat)
 | ret=>intro blk lv s ct fs KE p a w Z Q _ h hat hK;exact wp_ret (hK .ret lv s ct fs p a w h hat)
 | _=>intros;rename_i h hat _;simp only [comp,oI_] at h;subst h;obtain ⟨K,ρ,G,h1,_⟩:=hat;cases h1
end
end Go.Proofs.YtjimmglpkndemaaGreatC
