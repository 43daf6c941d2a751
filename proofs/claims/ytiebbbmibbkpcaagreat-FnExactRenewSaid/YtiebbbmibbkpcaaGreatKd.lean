/- The walk by reflection: a part of its laws, for any function. Conditions: none. -/
import Derived.Test.YtiebbbmibbkpcaaGreatKc
import Derived.ChangeSame
import Derived.JoinedOf
import Derived.JoinedAt
import Derived.RowKit3
import Derived.Carry
namespace Go.Proofs.YtiebbbmibbkpcaaGreatC
set_option linter.unusedVariables false
set_option linter.unusedSimpArgs false
theorem aNb_ {α β:Type} {F:(α→Option β)→α→Option β} {n:Nat} (Inv:Nat→α→Prop) {Q:Option β→Prop}
  (step:∀ i x,i < n→Inv i x→∀ s,(∃ x',Inv (i+1) x'∧F s x=s x')∨Q (F s x)) (fin:∀ x,Inv n x→∀ s,Q (F s x)) {x:α} (hx:Inv 0 x) {R:Nat} (hR:n < R):Q (iter F R x):=by
 have:∀ d i x,i+d=n→Inv i x→∀ R,d < R→Q (iter F R x):=by
  intro d
  induction d with
  | zero =>
   intro i x hi hx R hR
   cases R with
   | zero=>omega
   | succ R=>rw [Nat.add_zero] at hi;subst hi;exact fin x hx _
  | succ d ih =>
   intro i x hi hx R hR
   cases R with
   | zero=>omega
   | succ R =>
    unfold iter
    rcases step i x (by omega) hx (iter F R) with ⟨x',h1,h2⟩ | h
    ·rw [h2];exact ih (i+1) x' (by omega) h1 R (by omega)
    ·exact h
 exact this n 0 x (by omega) hx R hR
def Both (o o':Option (List T)):Prop:=∃ b,o=some [.c (.bool b)]∧o'=some [.c (.bool b)]
theorem aOu_ (a b c d:Int):Prim.ev (.eqs [1,1]) [.c (.int .i64 a),.c (.int .i64 b),.c (.int .i64 c),.c (.int .i64 d)]=some (.c (.bool (a == c && (b == d)))):=by
 simp [Prim.ev,eqT,eqV]
set_option linter.unusedSimpArgs false
def zf_ (g:Nat→List T→Nat × List T):Nat→List (List T)→Nat × List (List T)
 | n,[]=>(n,[])
 | n,r :: rs=>((zf_ g (g n r).1 rs).1,(g n r).2 :: (zf_ g (g n r).1 rs).2)
mutual
def mkT:Ty→Nat→T→Nat × T
 | .i k,n,_=>(n+1,.c (.int k (n:Int)))
 | .b,n,_=>(n+1,.c (.bool (n % 3 == 0)))
 | .s,n,t=>(n,t)
 | .sl fs,n,t=>match t with
  | .l xs=>((zf_ (mkR fs) n xs).1,.l (zf_ (mkR fs) n xs).2)
  | t=>(n,t)
def mkR:List Ty→Nat→List T→Nat × List T
 | [],n,_=>(n,[])
 | f :: fs,n,ts=>match ts with
  | t :: ts=>((mkR fs (mkT f n t).1 ts).1,(mkT f n t).2 :: (mkR fs (mkT f n t).1 ts).2)
  | []=>(n,[])
end
theorem jM_ (n:Nat) (ts:List T):mkR [] n ts=(n,[]):=by simp only [mkR]
theorem vk_ (f:Ty) (fs:List Ty) (n:Nat) (t:T) (ts:List T):mkR (f :: fs) n (t :: ts)=((mkR fs (mkT f n t).1 ts).1,(mkT f n t).2 :: (mkR fs (mkT f n t).1 ts).2):=by simp only [mkR]
theorem alp_ (k:IntKind) (n:Nat) (t:T):mkT (.i k) n t=(n+1,.c (.int k (n:Int))):=by simp only [mkT]
theorem alg_ (n:Nat) (t:T):mkT .b n t=(n+1,.c (.bool (n % 3 == 0))):=by simp only [mkT]
theorem ajn_ (fs:List Ty) (n:Nat) (xs:List (List T)):mkT (.sl fs) n (.l xs)=((zf_ (mkR fs) n xs).1,.l (zf_ (mkR fs) n xs).2):=by simp only [mkT]
theorem ai4_ {g:Nat→List T→Nat × List T}:∀ (xs:List (List T)) (n:Nat) (r:List T),zf_ g n (xs++[r])=((g (zf_ g n xs).1 r).1,(zf_ g n xs).2++[(g (zf_ g n xs).1 r).2])
 | [],n,r=>rfl
 | x :: xs,n,r=>by
  show ((zf_ g (g n x).1 (xs++[r])).1,(g n x).2 :: (zf_ g (g n x).1 (xs++[r])).2)=_
  rw [ai4_ xs]
  rfl
theorem qM_ {g:Nat→List T→Nat × List T}:∀ (xs:List (List T)) (n:Nat),(zf_ g n xs).2.length=xs.length
 | [],n=>rfl
 | x :: xs,n=>by simp [zf_,qM_ xs]
theorem amd_ {g:Nat→List T→Nat × List T} {xs:List (List T)} {i:Nat} {r:List T} (h:xs[i]?=some r) (n:Nat):zf_ g n (xs.take (i+1))=((g (zf_ g n (xs.take i)).1 r).1,(zf_ g n (xs.take i)).2++[(g (zf_ g n (xs.take i)).1 r).2]):=by
 rw [asa_ h,ai4_]
theorem ap0_ {g:Nat→List T→Nat × List T}:∀ {xs:List (List T)} {i:Nat} {r:List T} (n:Nat),xs[i]?=some r→(zf_ g n xs).2[i]?=some (g (zf_ g n (xs.take i)).1 r).2
 | [],_,_,_,h=>by simp at h
 | x :: xs,0,r,n,h=>by simp at h;subst h;simp [zf_]
 | x :: xs,i+1,r,n,h=>by
  have:=ap0_ (g:=g) (xs:=xs) (i:=i) (r:=r) (g n x).1 (by simpa using h)
  simpa [zf_] using this
mutual
def uw_:Ty→Bool
 | .i .i64=>true
 | .i _=>false
 | .b=>true
 | .s=>false
 | .sl fs=>Nat.ble fs.length 64 && mkOk fs
def mkOk:List Ty→Bool
 | []=>true
 | f :: fs=>uw_ f && mkOk fs
end
theorem ado_ {f:Ty} {fs:List Ty} (h:mkOk (f :: fs)=true):uw_ f=true∧mkOk fs=true:=by
 unfold mkOk at h
 simpa using h
theorem abk_ {fs:List Ty} (h:uw_ (.sl fs)=true):fs.length≤64∧mkOk fs=true:=by
 unfold uw_ at h
 simp only [Bool.and_eq_true] at h
 exact ⟨Nat.le_of_ble_eq_true h.1,h.2⟩
theorem adk_ {g:Nat→List T→Nat × List T} {xs:List (List T)} (hg:∀ n,∀ r∈xs,n≤(g n r).1∧(g n r).1≤n+64 * (1+xm_ r)):∀ (n:Nat),n≤(zf_ g n xs).1∧(zf_ g n xs).1≤n+64 * zL_ xs:=by
 induction xs with
 | nil=>intro n;simp [zf_,zL_]
 | cons x xs ih =>
  intro n
  have h1:=hg n x (.head _)
  have h2:=ih (fun n r hr=>hg n r (.tail _ hr)) (g n x).1
  simp only [zf_,zL_]
  omega
mutual
theorem apd_:∀ (f:Ty) (n:Nat) (t:T),uw_ f=true→WT f t→n≤(mkT f n t).1∧(mkT f n t).1≤n+1+64 * bulk t
 | .i k,n,t,_,_=>by simp only [alp_];omega
 | .b,n,t,_,_=>by simp only [alg_];omega
 | .s,n,t,h,_=>by simp [uw_] at h
 | .sl fs,n,t,h,ht=>by
  unfold WT at ht
  obtain ⟨xs,rfl,_,hx⟩:=ht
  have hm:=abk_ h
  rw [ajn_,zH_]
  have:=adk_ (g:=mkR fs) (xs:=xs) (fun n r hr=>by
   have:=aff_ fs n r hm.2 (hx r hr)
   omega) n
  simp only
  omega
theorem aff_:∀ (fs:List Ty) (n:Nat) (ts:List T),mkOk fs=true→WTs fs ts→n≤(mkR fs n ts).1∧(mkR fs n ts).1≤n+fs.length+64 * xm_ ts
 | [],n,ts,_,_=>by simp only [jM_,List.length_nil];omega
 | f :: fs,n,ts,h,ht=>by
  unfold WTs at ht
  obtain ⟨t,ts',rfl,h1,h2⟩:=ht
  have hm:=ado_ h
  have g1:=apd_ f n t hm.1 h1
  have g2:=aff_ fs (mkT f n t).1 ts' hm.2 h2
  rw [vk_,ze_]
  simp only [List.length_cons]
  omega
end
mutual
theorem aQn_:∀ (f:Ty) (n:Nat) (t:T),uw_ f=true→WT f t→n+1+64 * bulk t < 4611686018427387904→WT f (mkT f n t).2∧bulk (mkT f n t).2=bulk t
 | .i k,n,t,hk,ht,hn=>by
  unfold WT at ht
  obtain ⟨m,rfl,_⟩:=ht
  rw [alp_,z6_,z6_]
  refine ⟨?_,rfl⟩
  unfold WT
  cases k with
  | i64=>exact ⟨n,rfl,by simp [Lit.wf,IntKind.min,IntKind.max,IntKind.signed,IntKind.bits];omega⟩
  | _=>simp [uw_] at hk
 | .b,n,t,_,ht,_=>by
  unfold WT at ht
  obtain ⟨m,rfl⟩:=ht
  rw [alg_,z9_,z9_]
  refine ⟨?_,rfl⟩
  unfold WT
  exact ⟨_,rfl⟩
 | .s,n,t,h,_,_=>by simp [uw_] at h
 | .sl fs,n,t,h,ht,hn=>by
  unfold WT at ht
  obtain ⟨xs,rfl,hl,hx⟩:=ht
  have hm:=abk_ h
  rw [ajn_,zH_,zH_]
  rw [zH_] at hn
  have:∀ (xs:List (List T)) (n:Nat),(∀ r∈xs,WTs fs r)→n+1+64 * zL_ xs < 4611686018427387904→(∀ r∈(zf_ (mkR fs) n xs).2,WTs fs r)∧zL_ (zf_ (mkR fs) n xs).2=zL_ xs:=by
   intro xs
   induction xs with
   | nil=>intro n _ _;simp [zf_]
   | cons x xs ih =>
    intro n hx hn
    simp only [zL_] at hn
    have g0:=aff_ fs n x hm.2 (hx x (.head _))
    have g1:=axx_ fs n x hm.2 (hx x (.head _)) (by omega)
    have g2:=ih (mkR fs n x).1 (fun r hr=>hx r (.tail _ hr)) (by omega)
    simp only [zf_,zL_,List.mem_cons]
    refine ⟨?_,by rw [g1.2,g2.2]⟩
    rintro r (rfl | hr)
    ·exact g1.1
    ·exact g2.1 r hr
  have:=this xs n hx hn
  refine ⟨?_,this.2⟩
  unfold WT
  exact ⟨_,rfl,by rw [qM_];exact hl,this.1⟩
theorem axx_:∀ (fs:List Ty) (n:Nat) (ts:List T),mkOk fs=true→WTs fs ts→n+fs.length+64 * xm_ ts < 4611686018427387904→WTs fs (mkR fs n ts).2∧xm_ (mkR fs n ts).2=xm_ ts
 | [],n,ts,_,ht,_=>by
  unfold WTs at ht
  subst ht
  rw [jM_]
  refine ⟨?_,rfl⟩
  unfold WTs
  rfl
 | f :: fs,n,ts,h,ht,hn=>by
  unfold WTs at ht
  obtain ⟨t,ts',rfl,h1,h2⟩:=ht
  have hm:=ado_ h
  simp only [ze_,List.length_cons] at hn
  have g0:=apd_ f n t hm.1 h1
  have g1:=aQn_ f n t hm.1 h1 (by omega)
  have g2:=axx_ fs (mkT f n t).1 ts' hm.2 h2 (by omega)
  rw [vk_,ze_,ze_,g1.2,g2.2]
  refine ⟨?_,rfl⟩
  unfold WTs
  exact ⟨_,_,rfl,g1.1,g2.1⟩
end
def aap_ (F:Sem1) (fs:List Ty):Prop :=
 ∀ (n:Nat) (ts:List T),WTs fs ts→xm_ ts≤1048576→n+64 * xm_ ts≤1099511627776→F ((mkR fs n ts).2++[.c (.int .i64 (n:Int))])=some [.c (.int .i64 ((mkR fs n ts).1:Int))]
def u5_ (w:Nat):List Ty→List Nat→Nat→Nat→Nat→(Nat→Nat→PL)→PL
 | [],_,_,c,p,k=>k c p
 | .b :: fs,gs,j,c,p,k =>
  .ins (.pr .bnd [.a 0,.a 4]) <| .ins (.pr (.cell w j) [.a 0,.a 4]) <| .ins (.pr (.bin .rem) [.a c,.k (.int .i64 3)]) <| .ins (.pr (.bin .eql) [.a (p+2),.k (.int .i64 0)]) <|
  .ins (.pr (.bb .neq) [.a (p+1),.a (p+3)]) <| .ite (p+4) (.ins (.pr .scl [.k (.int .i64 (-1))]) <| .ret [.a (p+5)]) <| .ins (.pr (.bin .add) [.a c,.k (.int .i64 1)]) <| u5_ w fs gs (j+1) (p+5) (p+6) k
 | .sl _ :: fs,gs,j,c,p,k =>
  .ins (.pr .bnd [.a 0,.a 4]) <| .ins (.pr (.cell w j) [.a 0,.a 4]) <| .ins (.cl (gs.headD 0) [.a (p+1),.a c] 1) <| .ins (.pr (.bin .lss) [.a (p+2),.k (.int .i64 0)]) <|
  .ite (p+3) (.ins (.pr .scl [.k (.int .i64 (-1))]) <| .ret [.a (p+4)]) <| u5_ w fs gs.tail (j+1) (p+2) (p+4) k
 | _ :: fs,gs,j,c,p,k =>
  .ins (.pr .bnd [.a 0,.a 4]) <| .ins (.pr (.cell w j) [.a 0,.a 4]) <| .ins (.pr (.bin .neq) [.a (p+1),.a c]) <| .ite (p+2) (.ins (.pr .scl [.k (.int .i64 (-1))]) <| .ret [.a (p+3)]) <|
  .ins (.pr (.bin .add) [.a c,.k (.int .i64 1)]) <| u5_ w fs gs (j+1) (p+3) (p+4) k
def aOc_ (fs:List Ty) (gs:List Nat):PL :=
 .loop [.a 1,.k (.int .i64 0),.k (.int .i64 0)] <|
  .ins (.pr .len [.a 0]) <|
  .ins (.pr (.bin .lss) [.a 4,.a 5]) <|
  .ite 6 (u5_ fs.length fs gs 0 2 7 fun c p=>.ins (.pr (.bin .add) [.a 4,.k (.int .i64 1)]) <| .go 0 [.a c,.a 3,.a p])
  (.ins (.pr .scl [.a 2]) <| .ret [.a 7])
def jQ_ (S:Nat→Sem1):List Ty→List Nat→Prop
 | [],_=>True
 | .sl fs :: r,g :: gs=>aap_ (S g) [.sl fs]∧jQ_ S r gs
 | .sl _ :: _,[]=>False
 | _ :: r,gs=>jQ_ S r gs
theorem yO_ {ρ:List T} {n:Nat} {t:T} (h:ρ.getD n T.dft=t) (hn:n < ρ.length) (B:List T):(ρ++B).getD n T.dft=t:=by
 rw [← h]
 simp [List.getD,List.getElem?_append_left hn]
theorem q6_ {ρ B:List T} {t:T}:(ρ++t :: B).getD ρ.length T.dft=t:=by
 simp [List.getD]
theorem aCg_ (n:Nat):Prim.ev (.bin .rem) [.c (.int .i64 (n:Int)),.c (.int .i64 3)]=some (.c (.int .i64 ((n % 3:Nat):Int))):=by
 simp only [Prim.ev,T.val,binV,Option.bind_some,if_true]
 rw [if_neg (by decide)]
 simp only [Option.bind_some]
 congr 3
theorem aCv_ (a b:Nat):(((a:Int)) == (b:Int))=(a == b):=by
 rw [Bool.eq_iff_iff]
 simp only [beq_iff_eq]
 omega
set_option linter.unusedSimpArgs false
theorem xR_ {ρ:List T} {p:Nat} (hp:ρ.length=p) (m:Nat) (B:List T):(ρ++B).getD (p+m) T.dft=B.getD m T.dft:=by
 subst hp
 simp only [List.getD,List.getElem?_append_right (Nat.le_add_right _ _),Nat.add_sub_cancel_left]
theorem aJf_ {α:Type} {r:List α} {j:Nat} {t:α} {ts:List α} (h:r.drop j=t :: ts):r[j]?=some t∧r.drop (j+1)=ts:=by
 have hj:j < r.length:=by
  rcases Nat.lt_or_ge j r.length with h' | h'
  ·exact h'
  ·rw [List.drop_eq_nil_iff.2 h'] at h;cases h
 rw [List.drop_eq_getElem_cons hj] at h
 cases h
 exact ⟨List.getElem?_eq_getElem hj,rfl⟩
theorem add_ {S:Nat→Sem1} {R:Nat} {K:List Sem1} {w i:Nat} {ys:List (List T)} {r:List T} {out:Option (List T)} (hr:ys[i]?=some r) (hw:r.length=w):∀ (fs:List Ty) (gs:List Nat) (j c p:Nat) (k:Nat→Nat→PL) (ρ:List T) (n:Nat) (ts:List T),
  jQ_ S fs gs→mkOk fs=true→WTs fs ts→xm_ ts≤1048576→n+fs.length+64 * xm_ ts≤1099511627776→r.drop j=(mkR fs n ts).2→ρ.length=p→4 < p→ρ.getD 0 T.dft=.l ys→ρ.getD 4 T.dft=.c (.int .i64 (i:Int))→c < p→ρ.getD c T.dft=.c (.int .i64 (n:Int)) →
  (∀ (c' p':Nat) (B:List T),(ρ++B).length=p'→c' < p'→(ρ++B).getD c' T.dft=.c (.int .i64 ((mkR fs n ts).1:Int))→PL.den S R K (ρ++B) (k c' p')=out) →
  PL.den S R K ρ (u5_ w fs gs j c p k)=out
 | [],gs,j,c,p,k,ρ,n,ts,_,_,_,_,_,_,hp,h4,_,_,hc,hn,hk=>by
  have:=hk c p [] (by simpa using hp) hc (by simpa [jM_] using hn)
  simpa [u5_] using this
 | f :: fs,gs,j,c,p,k,ρ,n,ts,hS,hm,ht,hb,hbn,hd,hp,h4,e0,e4,hc,hn,hk=>by
  unfold WTs at ht
  obtain ⟨t,ts',rfl,ht1,ht2⟩:=ht
  have hm':=ado_ hm
  rw [vk_] at hd
  obtain ⟨hj,hd'⟩:=aJf_ hd
  simp only [ze_,List.length_cons] at hb hbn
  have x0:∀ B,(ρ++B).getD 0 T.dft=.l ys:=fun B=>yO_ e0 (by omega) B
  have x4:∀ B,(ρ++B).getD 4 T.dft=.c (.int .i64 (i:Int)):=fun B=>yO_ e4 (by omega) B
  have xc:∀ B,(ρ++B).getD c T.dft=.c (.int .i64 (n:Int)):=fun B=>yO_ hn (by omega) B
  have xp:=xR_ hp
  have xp0:∀ B,(ρ++B).getD p T.dft=B.getD 0 T.dft:=fun B=>xp 0 B
  have cell:=alb_ (k:=.i64) hr hw hj
  have hle:=apd_ f n t hm'.1 ht1
  have wr:IntKind.i64.wrap ((n:Int)+1)=((n+1:Nat):Int):=by rw [ud_ (by omega) (by omega)];simp
  cases f with
  | i kk =>
   cases kk with
   | i64 =>
    rw [alp_] at cell
    simp only [u5_,yo_,yZ_,List.map_cons,List.map_nil,ev_k,ev_a,e0,e4,hn,x0,x4,xc,xp,xp0,List.append_assoc,List.cons_append,List.nil_append,List.getD_cons_zero,List.getD_cons_succ,za_,vI_ hr,cell,afs_,bne_self_eq_false,xL_,cond_false,ug_,wr]
    refine add_ hr hw fs gs (j+1) (p+3) (p+4) k _ (n+1) ts' (by simpa [jQ_] using hS) hm'.2 ht2 (by omega) (by omega) (by rw [hd',alp_]) (by simp [hp]) (by omega) (x0 _) (x4 _) (by omega) (by rw [xp];rfl) ?_
    intro c' p' B h1 h2 h3
    rw [List.append_assoc] at h1 h3 ⊢
    refine hk c' p' _ h1 h2 ?_
    rw [h3,vk_,alp_]
   | _=>simp [uw_] at hm'
  | b =>
   rw [alg_] at cell
   have hbeq:(((n % 3:Nat):Int) == (0:Int))=(n % 3 == 0):=aCv_ (n % 3) 0
   simp only [u5_,yo_,yZ_,List.map_cons,List.map_nil,ev_k,ev_a,e0,e4,hn,x0,x4,xc,xp,xp0,List.append_assoc,List.cons_append,List.nil_append,List.getD_cons_zero,List.getD_cons_succ,za_,vI_ hr,cell,aCg_,apk_,hbeq,an3_,bne_self_eq_false,xL_,cond_false,ug_,wr]
   refine add_ hr hw fs gs (j+1) (p+5) (p+6) k _ (n+1) ts' (by simpa [jQ_] using hS) hm'.2 ht2 (by omega) (by omega) (by rw [hd',alg_]) (by simp [hp]) (by omega) (x0 _) (x4 _) (by omega) (by rw [xp];rfl) ?_
   intro c' p' B h1 h2 h3
   rw [List.append_assoc] at h1 h3 ⊢
   refine hk c' p' _ h1 h2 ?_
   rw [h3,vk_,alg_]
  | s=>simp [uw_] at hm'
  | sl es =>
   cases gs with
   | nil=>simp [jQ_] at hS
   | cons g gs =>
    simp only [jQ_] at hS
    have hcall:=hS.1 n [t] (by unfold WTs;exact ⟨t,[],rfl,ht1,by unfold WTs;rfl⟩) (by simp only [ze_,zo_];omega) (by simp only [ze_,zo_];omega)
    rw [vk_,jM_] at hcall
    simp only [List.cons_append,List.nil_append] at hcall
    have hnn:¬ (((mkT (.sl es) n t).1:Int) < 0):=by omega
    simp only [u5_,yo_,wH_,yZ_,List.map_cons,List.map_nil,ev_k,ev_a,e0,e4,hn,x0,x4,xc,xp,xp0,List.append_assoc,List.cons_append,List.nil_append,List.getD_cons_zero,List.getD_cons_succ,za_,vI_ hr,cell,List.headD_cons,hcall,z4_,xH_,hnn,decide_false,xL_,cond_false]
    refine add_ hr hw fs gs (j+1) (p+2) (p+4) k _ (mkT (.sl es) n t).1 ts' hS.2 hm'.2 ht2 (by omega) (by omega) hd' (by simp [hp]) (by omega) (x0 _) (x4 _) (by omega) (by rw [xp];rfl) ?_
    intro c' p' B h1 h2 h3
    rw [List.append_assoc] at h1 h3 ⊢
    refine hk c' p' _ h1 h2 ?_
    rw [h3,vk_]
theorem af5_ {S:Nat→Sem1} {fs:List Ty} {gs:List Nat} (hS:jQ_ S fs gs) (hm:uw_ (.sl fs)=true):aap_ (fun ts=>(aOc_ fs gs).den S rounds [] ts) [.sl fs]:=by
 intro n ts ht hb hn
 obtain ⟨xs,rfl,h2,h3⟩:=ht.sl1
 have hm':=abk_ hm
 rw [ze_,zo_,zH_,Nat.add_zero] at hb hn
 have hlen:=w1_ xs
 rw [vk_,jM_,ajn_]
 simp only [List.cons_append,List.nil_append,aOc_]
 rw [kI_]
 have hbt:∀ i,zL_ (xs.take i)≤zL_ xs:=by
  intro i
  have:=ajb_ (xs.take i) (xs.drop i)
  rw [List.take_append_drop] at this
  omega
 have hmono:=fun i=>adk_ (g:=mkR fs) (xs:=xs.take i) (fun m r hr=>by
  have:=aff_ fs m r hm'.2 (h3 r (List.mem_of_mem_take hr))
  omega) n
 have key:=ab6_ (n:=xs.length) (out:=[T.c (.int .i64 ((zf_ (mkR fs) n xs).1:Int))]) (F:=fun self ts=>(PL.den S rounds (self :: []) ([T.l (zf_ (mkR fs) n xs).2,.c (.int .i64 (n:Int))]++ts) (
  .ins (.pr .len [.a 0]) <|
  .ins (.pr (.bin .lss) [.a 4,.a 5]) <|
  .ite 6 (u5_ fs.length fs gs 0 2 7 fun c p=>.ins (.pr (.bin .add) [.a 4,.k (.int .i64 1)]) <| .go 0 [.a c,.a 3,.a p])
  (.ins (.pr .scl [.a 2]) <| .ret [.a 7])))) (fun i=>[.c (.int .i64 ((zf_ (mkR fs) n (xs.take i)).1:Int)),.c (.int .i64 0),.c (.int .i64 (i:Int))]) ?_ ?_ rounds (by unfold rounds;omega)
 ·exact key
 ·intro i hi self
  obtain ⟨r,hr⟩:=qs_ hi
  have hwr:=h3 r (ws_ hr)
  have hbr:=ke_ hr
  have hrow:=ap0_ (g:=mkR fs) n hr
  have htk:=amd_ (g:=mkR fs) hr n
  have hb1:=hbt (i+1)
  have hb2:=uJ_ hr
  have hm1:=hmono i
  have hlt:(i:Int) < xs.length:=by omega
  have e3:IntKind.i64.wrap ((i:Int)+1)=((i+1:Nat):Int):=by rw [ud_ (by omega) (by omega)];simp
  generalize hN:(zf_ (mkR fs) n (xs.take i)).1=N at *
  have hlw:=axx_ fs N r hm'.2 hwr (by omega)
  simp only [yo_,yZ_,List.map_cons,List.map_nil,ev_k,ev_a,List.cons_append,List.nil_append,List.getD_cons_zero,List.getD_cons_succ,za_,xz_,qM_,xH_,hlt,decide_true,xL_,cond_true]
  refine add_ hrow (by rw [hlw.1.length]) fs gs 0 2 7 _ _ N r hS hm'.2 hwr (by omega) (by omega) (by rw [List.drop_zero]) rfl (by omega) rfl rfl (by omega) rfl ?_
  intro c' p' B h1 h4 h5
  have h6:=q6_ (ρ:=[T.l (zf_ (mkR fs) n xs).2,.c (.int .i64 (n:Int)),.c (.int .i64 (N:Int)),.c (.int .i64 0),.c (.int .i64 (i:Int)),.c (.int .i64 (xs.length:Int)),.c (.bool true)]++B) (B:=[]) (t:=.c (.int .i64 ((i+1:Nat):Int)))
  rw [h1] at h6
  have h7:=yO_ h5 (by rw [h1];exact h4) [.c (.int .i64 ((i+1:Nat):Int))]
  simp only [List.cons_append,List.nil_append,List.append_assoc] at h6 h7
  simp only [yo_,wE_,List.map_cons,List.map_nil,ev_k,ev_a,List.cons_append,List.nil_append,List.append_assoc,List.getD_cons_zero,List.getD_cons_succ,za_,ug_,e3,h6,h7,htk]
 ·intro self
  have:xs.take xs.length=xs:=List.take_length
  simp only [this,x8_,yo_,yZ_,List.map_cons,List.map_nil,ev_k,ev_a,List.cons_append,List.nil_append,List.getD_cons_zero,List.getD_cons_succ,za_,xz_,qM_,xH_,Int.lt_irrefl,decide_false,xL_,cond_false,vR_]
set_option linter.unusedSimpArgs false
abbrev Pt:=List (Nat × Nat × Nat)
def getV:Pt→T→Option T
 | [],t=>some t
 | (i,w,j) :: P,.l xs=>(xs[i]?).bind fun r=>if r.length=w then (r[j]?).bind fun t=>t.rows.bind fun ys=>getV P (.l ys) else none
 | _ :: _,.c _=>none
def setV:Pt→T→T→T
 | [],_,v=>v
 | (i,w,j) :: P,.l xs,v=>.l (setRow xs i j [setV P (((xs[i]?).bind (·[j]?)).getD T.dft) v])
 | _ :: _,t,_=>t
theorem qq_ {i w j:Nat} {P:Pt} {t d:T} (h:getV ((i,w,j) :: P) t=some d):∃ xs r ys,t=.l xs∧xs[i]?=some r∧r.length=w∧r[j]?=some (.l ys)∧getV P (.l ys)=some d:=by
 cases t with
 | c v=>simp [getV] at h
 | l xs =>
  simp only [getV,Option.bind_eq_some_iff] at h
  obtain ⟨r,hr,h⟩:=h
  split at h
  ·rename_i hw
   rw [Option.bind_eq_some_iff] at h
   obtain ⟨u,hu,h⟩:=h
   cases u with
   | c v=>simp [T.rows] at h
   | l ys=>exact ⟨xs,r,ys,rfl,hr,hw,hu,by simpa [T.rows] using h⟩
  ·cases h
theorem aqs_ {i w j:Nat} {P:Pt} {xs:List (List T)} {r:List T} {ys:List (List T)} {d:T} (h1:xs[i]?=some r) (h2:r.length=w) (h3:r[j]?=some (.l ys)) (h4:getV P (.l ys)=some d):getV ((i,w,j) :: P) (.l xs)=some d:=by
 simp [getV,h1,h2,h3,T.rows,h4]
theorem w3_ {xs:List (List T)} {i:Nat} {a b:List T} {t v:T} {j:Nat} (h:xs[i]?=some (a++t :: b)) (hj:a.length=j):setRow xs i j [v]=xs.set i (a++v :: b):=by
 subst hj
 unfold setRow
 apply List.ext_getElem?
 intro k
 rw [List.getElem?_modify,List.getElem?_set]
 by_cases hk:i=k
 ·subst hk
  have hi:i < xs.length:=(List.getElem?_eq_some_iff.1 h).1
  rw [h]
  simp [hi]
 ·simp [hk]
theorem anh_ {r:List T} {j:Nat} {t:T} (h:r[j]?=some t):∃ a b,r=a++t :: b∧a.length=j:=by
 obtain ⟨hj,he⟩:=List.getElem?_eq_some_iff.1 h
 refine ⟨r.take j,r.drop (j+1),?_,by simp;omega⟩
 rw [← he,← List.drop_eq_getElem_cons hj,List.take_append_drop]
theorem aE5_ {xs:List (List T)} {i:Nat} {r:List T} {t v:T} {j:Nat} (h:xs[i]?=some r) (hj:r[j]?=some t):∃ r',(setRow xs i j [v])[i]?=some r'∧r'.length=r.length∧r'[j]?=some v:=by
 obtain ⟨a,b,rfl,ha⟩:=anh_ hj
 have hi:i < xs.length:=(List.getElem?_eq_some_iff.1 h).1
 rw [w3_ h ha]
 refine ⟨a++v :: b,by simp [hi],by simp,?_⟩
 subst ha
 simp
theorem ac3_:∀ {P:Pt} {t d:T} {v:List (List T)},getV P t=some d→getV P (setV P t (.l v))=some (.l v)
 | [],t,d,v,_=>rfl
 | (i,w,j) :: P,t,d,v,h=>by
  obtain ⟨xs,r,ys,rfl,h1,h2,h3,h4⟩:=qq_ h
  have ih:=ac3_ (v:=v) h4
  have e:((xs[i]?).bind (·[j]?)).getD T.dft=.l ys:=by simp [h1,h3]
  simp only [setV,e]
  cases hs:setV P (.l ys) (.l v) with
  | c u=>rw [hs] at ih;cases P with
   | nil=>simp [getV] at ih
   | cons q P=>obtain ⟨q1,q2,q3⟩:=q;simp [getV] at ih
  | l zs =>
   obtain ⟨r',g1,g2,g3⟩:=aE5_ (v:=.l zs) h1 h3
   rw [hs] at ih
   exact aqs_ g1 (by rw [g2,h2]) g3 ih
theorem am0_:∀ {P:Pt} {t d:T} {v:List (List T)} {v':T},getV P t=some d→setV P (setV P t (.l v)) v'=setV P t v'
 | [],t,d,v,v',_=>rfl
 | (i,w,j) :: P,t,d,v,v',h=>by
  obtain ⟨xs,r,ys,rfl,h1,h2,h3,h4⟩:=qq_ h
  have ih:=am0_ (v:=v) (v':=v') h4
  have e:((xs[i]?).bind (·[j]?)).getD T.dft=.l ys:=by simp [h1,h3]
  obtain ⟨a,b,rfl,ha⟩:=anh_ h3
  have hi:i < xs.length:=(List.getElem?_eq_some_iff.1 h1).1
  have e2:∀ u:T,(((setRow xs i j [u])[i]?).bind (·[j]?)).getD T.dft=u:=by
   intro u
   rw [w3_ h1 ha]
   subst ha
   simp [hi]
  simp only [setV,e,e2,ih]
  congr 1
  have g1:(xs.set i (a++setV P (.l ys) (.l v) :: b))[i]?=some (a++setV P (.l ys) (.l v) :: b):=by simp [hi]
  rw [w3_ h1 ha,w3_ h1 ha,w3_ g1 ha,List.set_set]
theorem aya_ {xs:List (List T)} {i:Nat} {r:List T} (h:xs[i]?=some r):xs.set i r=xs:=by
 apply List.ext_getElem?
 intro k
 rw [List.getElem?_set]
 by_cases hk:i=k
 ·subst hk
  have hi:i < xs.length:=(List.getElem?_eq_some_iff.1 h).1
  simp [hi,h.symm]
 ·simp [hk]
theorem aj0_:∀ {P:Pt} {t d:T},getV P t=some d→setV P t d=t
 | [],t,d,h=>by simp only [getV,Option.some.injEq] at h;exact h.symm
 | (i,w,j) :: P,t,d,h=>by
  obtain ⟨xs,r,ys,rfl,h1,h2,h3,h4⟩:=qq_ h
  have ih:=aj0_ h4
  have e:((xs[i]?).bind (·[j]?)).getD T.dft=.l ys:=by simp [h1,h3]
  obtain ⟨a,b,rfl,ha⟩:=anh_ h3
  simp only [setV,e,ih]
  rw [w3_ h1 ha,aya_ h1]
theorem al8_:∀ {P Q:Pt} {t:T},getV (P++Q) t=(getV P t).bind (getV Q)
 | [],Q,t=>rfl
 | (i,w,j) :: P,Q,.c v=>by simp [getV]
 | (i,w,j) :: P,Q,.l xs=>by
  simp only [List.cons_append,getV]
  cases xs[i]? with
  | none=>rfl
  | some r =>
   simp only [Option.bind_some]
   split
   ·cases r[j]? with
    | none=>rfl
    | some u =>
     simp only [Option.bind_some]
     cases u with
     | c v=>rfl
     | l ys=>simp only [T.rows,Option.bind_some];exact al8_
   ·rfl
theorem ama_:∀ {P Q:Pt} {t d v:T},getV P t=some d→setV (P++Q) t v=setV P t (setV Q d v)
 | [],Q,t,d,v,h=>by simp only [getV,Option.some.injEq] at h;subst h;rfl
 | (i,w,j) :: P,Q,t,d,v,h=>by
  obtain ⟨xs,r,ys,rfl,h1,h2,h3,h4⟩:=qq_ h
  have e:((xs[i]?).bind (·[j]?)).getD T.dft=.l ys:=by simp [h1,h3]
  simp only [List.cons_append,setV,e,ama_ h4]
def PathOk (ρ:List T):Pt→Pt→Prop
 | [],[]=>True
 | (a,w,j) :: P,(i,w',j') :: Q=>w=w'∧j=j'∧a < ρ.length∧ρ.getD a T.dft=.c (.int .i64 (i:Int))∧PathOk ρ P Q
 | _,_=>False
theorem PathOk.ext {ρ:List T} (B:List T):∀ {P Q:Pt},PathOk ρ P Q→PathOk (ρ++B) P Q
 | [],[],_=>trivial
 | (a,w,j) :: P,(i,w',j') :: Q,⟨h1,h2,h3,h4,h5⟩=>⟨h1,h2,by simp;omega,yO_ h4 h3 B,PathOk.ext B h5⟩
 | [],_ :: _,h=>h.elim
 | (_,_,_) :: _,[],h=>h.elim
theorem PathOk.snoc {ρ:List T} {a i w j:Nat} (h1:a < ρ.length) (h2:ρ.getD a T.dft=.c (.int .i64 (i:Int))):∀ {P Q:Pt},PathOk ρ P Q→PathOk ρ (P++[(a,w,j)]) (Q++[(i,w,j)])
 | [],[],_=>⟨rfl,rfl,h1,h2,trivial⟩
 | (a',w',j') :: P,(i',w'',j'') :: Q,⟨g1,g2,g3,g4,g5⟩=>⟨g1,g2,g3,g4,PathOk.snoc h1 h2 g5⟩
 | [],_ :: _,h=>h.elim
 | (_,_,_) :: _,[],h=>h.elim
def k2_:Pt→Nat→Nat→(Nat→Nat→PL)→PL
 | [],s,p,k=>k s p
 | (a,w,j) :: P,s,p,k=>.ins (.pr (.dig w j) [.a s,.a a]) (k2_ P p (p+1) k)
def abh_:Pt→Nat→Nat→Nat→Nat→(Nat→Nat→PL)→PL
 | [],_,_,v,p,k=>k v p
 | (a,w,j) :: P,e,e',v,p,k=>abh_ P e' (e'+1) v p fun v' p'=>.ins (.pr (.bury w j) [.a e,.a a,.a v']) (k p' (p'+1))
theorem aJr_ {xs:List (List T)} {i w j:Nat} {r:List T} {ys:List (List T)} (h:xs[i]?=some r) (hw:r.length=w) (hj:r[j]?=some (.l ys)):Prim.ev (.dig w j) [.l xs,.c (.int .i64 (i:Int))]=some (.l ys):=by
 simp [Prim.ev,kT_ h,hw,hj,T.rows]
theorem aPk_ {xs:List (List T)} {i w j:Nat} {r:List T} {v:T} (h:xs[i]?=some r) (hw:r.length=w) (hj:j < w):Prim.ev (.bury w j) [.l xs,.c (.int .i64 (i:Int)),v]=some (.l (setRow xs i j [v])):=by
 simp [Prim.ev,kT_ h,hw,hj,T.rows,T.int]
def yU_:Pt→T→List T
 | [],_=>[]
 | (i,w,j) :: P,t=>match getV [(i,w,j)] t with
  | some u=>u :: yU_ P u
  | none=>[]
theorem aic_ {i w j:Nat} {P:Pt} {xs:List (List T)} {r:List T} {ys:List (List T)} (h1:xs[i]?=some r) (h2:r.length=w) (h3:r[j]?=some (.l ys)):yU_ ((i,w,j) :: P) (.l xs)=.l ys :: yU_ P (.l ys):=by
 simp only [yU_,aqs_ h1 h2 h3 (P:=[]) rfl]
section
variable {S:Nat→Sem1} {R:Nat} {K:List Sem1} {out:Option (List T)}
theorem jZ_:∀ {P Q:Pt} {s p:Nat} {k:Nat→Nat→PL} {ρ:List T} {t d:T},PathOk ρ P Q→getV Q t=some d→ρ.length=p→s < p→ρ.getD s T.dft=t →
  (∀ e,(yU_ Q t).length=P.length→e < p+P.length→(ρ++yU_ Q t).getD e T.dft=d→PL.den S R K (ρ++yU_ Q t) (k e (p+P.length))=out)→PL.den S R K ρ (k2_ P s p k)=out
 | [],[],s,p,k,ρ,t,d,_,hg,hp,hs,ht,hk=>by
  simp only [getV,Option.some.injEq] at hg
  subst hg
  have:=hk s rfl (by simpa using hs) (by simpa [yU_] using ht)
  simpa [yU_,k2_] using this
 | (a,w,j) :: P,(i,w',j') :: Q,s,p,k,ρ,t,d,⟨z1,z2,h3,h4,h5⟩,hg,hp,hs,ht,hk=>by
  subst z1 z2
  obtain ⟨xs,r,ys,rfl,g1,g2,g3,g4⟩:=qq_ hg
  rw [aic_ g1 g2 g3] at hk
  simp only [k2_,yo_,List.map_cons,List.map_nil,ev_a,ht,h4,aJr_ g1 g2 g3,za_]
  refine jZ_ (PathOk.ext _ h5) g4 (by simp [hp]) (by omega) (by rw [← hp];exact q6_) fun e he1 he2 he3=>?_
  rw [List.append_assoc] at he3 ⊢
  have:=hk e (by simp [he1]) (by simp;omega) he3
  simpa [Nat.add_assoc,Nat.add_comm 1] using this
 | [],_ :: _,_,_,_,_,_,_,h,_,_,_,_,_=>h.elim
 | (_,_,_) :: _,[],_,_,_,_,_,_,h,_,_,_,_,_=>h.elim
theorem asq_:∀ {P Q:Pt} {e e' v p:Nat} {k:Nat→Nat→PL} {ρ:List T} {t d vv:T},PathOk ρ P Q→getV Q t=some d→ρ.length=p→e < p→ρ.getD e T.dft=t→(∀ m x,(yU_ Q t)[m]?=some x→e'+m < p∧ρ.getD (e'+m) T.dft=x)→v < p→ρ.getD v T.dft=vv →
  (∀ (B:List T) (v' p':Nat),(ρ++B).length=p'→v' < p'→(ρ++B).getD v' T.dft=setV Q t vv→PL.den S R K (ρ++B) (k v' p')=out)→PL.den S R K ρ (abh_ P e e' v p k)=out
 | [],[],e,e',v,p,k,ρ,t,d,vv,_,hg,hp,he,ht,hc,hv,hvv,hk=>by
  have:=hk [] v p (by simpa using hp) hv (by simpa [setV] using hvv)
  simpa [abh_] using this
 | (a,w,j) :: P,(i,w',j') :: Q,e,e',v,p,k,ρ,t,d,vv,⟨z1,z2,h3,h4,h5⟩,hg,hp,he,ht,hc,hv,hvv,hk=>by
  subst z1 z2
  obtain ⟨xs,r,ys,rfl,g1,g2,g3,g4⟩:=qq_ hg
  rw [aic_ g1 g2 g3] at hc
  have c0:=hc 0 _ rfl
  have hjw:j < w:=by rw [← g2];exact (List.getElem?_eq_some_iff.1 g3).1
  rw [show abh_ ((a,w,j) :: P) e e' v p k=abh_ P e' (e'+1) v p (fun v' p'=>.ins (.pr (.bury w j) [.a e,.a a,.a v']) (k p' (p'+1))) from rfl]
  refine asq_ h5 g4 hp c0.1 c0.2 (fun m x hm=>?_) hv hvv fun B v' p' q1 q2 q3=>?_
  ·have:=hc (m+1) x (by simpa using hm)
   rw [show e'+1+m=e'+(m+1) by omega]
   exact this
  ·have x1:=yO_ ht (by omega) B
   have x2:=yO_ h4 h3 B
   simp only [yo_,List.map_cons,List.map_nil,ev_a,x1,x2,q3,aPk_ g1 g2 hjw,za_]
   rw [List.append_assoc]
   have e0:((xs[i]?).bind (·[j]?)).getD T.dft=.l ys:=by simp [g1,g3]
   refine hk _ p' (p'+1) (by simp at q1 ⊢;omega) (by omega) ?_
   rw [← List.append_assoc,← q1,q6_]
   simp only [setV,e0]
 | [],_ :: _,_,_,_,_,_,_,_,_,_,h,_,_,_,_,_,_,_,_=>h.elim
 | (_,_,_) :: _,[],_,_,_,_,_,_,_,_,_,h,_,_,_,_,_,_,_,_=>h.elim
def putP (P:Pt) (k w j s v p:Nat) (cont:Nat→Nat→PL):PL :=
 k2_ P s p fun d p1=>.ins (.pr .bnd [.a d,.a k]) <| k2_ P s (p1+1) fun d2 p2=>.ins (.pr (.put true w j 1) [.a d2,.a k,.a v]) <|
  match P with
  | []=>cont p2 (p2+1)
  | _ :: _=>k2_ P s (p2+1) fun _ p3=>abh_ P s (p2+1) p2 p3 cont
theorem aKu_ {P Q:Pt} {k w j s v p kv:Nat} {cont:Nat→Nat→PL} {ρ:List T} {t vv:T} {xs:List (List T)} {r:List T} (hP:PathOk ρ P Q) (hg:getV Q t=some (.l xs)) (hp:ρ.length=p) (hs:s < p) (ht:ρ.getD s T.dft=t)
  (hkp:k < p) (hk:ρ.getD k T.dft=.c (.int .i64 (kv:Int))) (hv:v < p) (hvv:ρ.getD v T.dft=vv) (hsc:scal vv=true) (hr:xs[kv]?=some r) (hw:r.length=w) (hj:j < w)
  (hc:∀ (B:List T) (s' p':Nat),(ρ++B).length=p'→s' < p'→(ρ++B).getD s' T.dft=setV Q t (.l (setRow xs kv j [vv]))→PL.den S R K (ρ++B) (cont s' p')=out):PL.den S R K ρ (putP P k w j s v p cont)=out:=by
 have hput:=apm_ (sc:=true) (k:=.i64) (off:=j) (n:=1) (vs:=[vv]) hr hw (by omega) rfl (by simp [hsc])
 unfold putP
 refine jZ_ hP hg hp hs ht fun e a1 a2 a3=>?_
 have l1:(ρ++yU_ Q t).length=p+P.length:=by simp [hp,a1]
 simp only [yo_,List.map_cons,List.map_nil,ev_a,a3,yO_ hk (by omega) _,vI_ hr,za_,List.append_assoc]
 refine jZ_ (PathOk.ext _ hP) hg (by simp [hp,a1];omega) (by omega) (yO_ ht (by omega) _) fun e2 b1 b2 b3=>?_
 simp only [List.append_assoc] at b3 ⊢
 simp only [yo_,List.map_cons,List.map_nil,ev_a,b3,yO_ hk (by omega) _,yO_ hvv (by omega) _,hput,za_,List.append_assoc]
 cases P with
 | nil =>
  cases Q with
  | cons _ _=>exact hP.elim
  | nil =>
   simp only [getV,Option.some.injEq] at hg
   refine hc _ _ _ (by simp [hp,yU_]) (by simp) ?_
   simp only [yU_,List.nil_append,List.length_nil,Nat.add_zero,List.cons_append]
   rw [show p+1=p+1 from rfl,xR_ hp]
   rfl
 | cons q P =>
  simp only
  refine jZ_ (PathOk.ext _ hP) hg (by simp [hp,a1];omega) (by omega) (yO_ ht (by omega) _) fun e3 c1 c2 c3=>?_
  simp only [List.append_assoc] at c3 ⊢
  have l3:(ρ++(yU_ Q t++([T.c (.bool true)]++(yU_ Q t++([T.l (setRow xs kv j [vv])]++yU_ Q t))))).length=p+(q :: P).length+1+(q :: P).length+1+(q :: P).length:=by simp [hp,a1];omega
  refine asq_ (PathOk.ext _ hP) hg l3 (by omega) (yO_ ht (by omega) _) (fun m x hm=>?_) (by omega) (vv:=.l (setRow xs kv j [vv])) ?_ fun B s' p' d1 d2 d3=>?_
  ·have hml:m < (yU_ Q t).length:=(List.getElem?_eq_some_iff.1 hm).1
   refine ⟨by omega,?_⟩
   have:=xR_ (ρ:=ρ++(yU_ Q t++([T.c (.bool true)]++(yU_ Q t++[T.l (setRow xs kv j [vv])])))) (p:=p+(q :: P).length+1+(q :: P).length+1) (by simp [hp,a1];omega) m (yU_ Q t)
   simp only [List.append_assoc] at this
   rw [this]
   simp [List.getD,hm]
  ·have:=xR_ (ρ:=ρ++(yU_ Q t++([T.c (.bool true)]++yU_ Q t))) (p:=p+(q :: P).length+1+(q :: P).length) (by simp [hp,a1];omega) 0 ([T.l (setRow xs kv j [vv])]++yU_ Q t)
   simp only [List.append_assoc,Nat.add_zero] at this
   rw [this]
   rfl
  ·rw [List.append_assoc] at d1 d3 ⊢
   exact hc _ s' p' d1 d2 d3
end
set_option linter.unusedSimpArgs false
abbrev Flds:=Pt→Nat→Nat→Nat→Nat→Nat→(Nat→Nat→Nat→Nat→PL)→PL
def lvP (flds:Flds) (P:Pt) (cl:Lf) (s p:Nat) (cont:Nat→Nat→Nat→PL):PL :=
 .loop [cl,.k (.int .i64 0),.a s] (k2_ P (p+2) (p+3) fun d p1=>.ins (.pr .len [.a d]) <| .ins (.pr (.bin .lss) [.a (p+1),.a p1]) <|
  .ite (p1+1) (flds P (p+1) (p+2) p (p1+2) 0 fun s c p' q=>.ins (.pr (.bin .add) [.a (p+1),.k (.int .i64 1)]) <| .go q [.a c,.a p',.a s]) (cont p (p+2) (p1+2)))
mutual
def apx_:Ty→Nat→Nat→Flds
 | .i _,w,j,P,k,s,c,p,q,cont=>putP P k w j s c p fun s' p'=>.ins (.pr (.bin .add) [.a c,.k (.int .i64 1)]) (cont s' p' (p'+1) q)
 | .b,w,j,P,k,s,c,p,q,cont=>.ins (.pr (.bin .rem) [.a c,.k (.int .i64 3)]) <| .ins (.pr (.bin .eql) [.a p,.k (.int .i64 0)]) <|
   putP P k w j s (p+1) (p+2) fun s' p'=>.ins (.pr (.bin .add) [.a c,.k (.int .i64 1)]) (cont s' p' (p'+1) q)
 | .s,w,j,P,k,s,c,p,q,cont=>cont s c p q
 | .sl es,w,j,P,k,s,c,p,q,cont=>k2_ P s p fun d p1=>.ins (.pr .bnd [.a d,.a k]) <| k2_ P s (p1+1) fun d2 p2=>.ins (.pr (.dig w j) [.a d2,.a k]) <|
   lvP (uK_ es es.length 0) (P++[(k,w,j)]) (.a c) s (p2+1) fun c' s' p'=>cont s' c' p' (q+1)
def uK_:List Ty→Nat→Nat→Flds
 | [],w,j,P,k,s,c,p,q,cont=>cont s c p q
 | f :: fs,w,j,P,k,s,c,p,q,cont=>apx_ f w j P k s c p q fun s' c' p' q'=>uK_ fs w (j+1) P k s' c' p' q' cont
end
def FOk (S:Nat→Sem1) (w:Nat) (fs:List Ty) (j:Nat) (flds:Flds):Prop :=
 ∀ (out:Option (List T)) (K:List Sem1) (P Q:Pt) (k s c p q kv n:Nat) (cont:Nat→Nat→Nat→Nat→PL) (ρ:List T) (t:T) (xs:List (List T)) (dn ts:List T),PathOk ρ P Q→getV Q t=some (.l xs)→ρ.length=p→s < p→ρ.getD s T.dft=t →
  k < p→ρ.getD k T.dft=.c (.int .i64 (kv:Int))→c < p→ρ.getD c T.dft=.c (.int .i64 (n:Int))→xs[kv]?=some (dn++ts)→dn.length=j→(dn++ts).length=w→WTs fs ts→xm_ ts≤1048576→n+fs.length+64 * xm_ ts≤1099511627776 →
  (∀ (Ks:List Sem1) (B:List T) (s' c' p':Nat),(ρ++B).length=p'→s' < p'→c' < p'→(ρ++B).getD c' T.dft=.c (.int .i64 ((mkR fs n ts).1:Int))→(ρ++B).getD s' T.dft=setV Q t (.l (xs.set kv (dn++(mkR fs n ts).2))) →
   PL.den S rounds (Ks++K) (ρ++B) (cont s' c' p' (q+Ks.length))=out)→PL.den S rounds K ρ (flds P k s c p q cont)=out
theorem aCm_ {S:Nat→Sem1} {R:Nat} {f:Sem1} {K:List Sem1} {ρ:List T} (xs:List Lf):∀ Ks:List Sem1,PL.den S R (Ks++f :: K) ρ (.go Ks.length xs)=f (xs.map (Lf.ev ρ))
 | []=>by simp only [List.nil_append,List.length_nil,wE_]
 | g :: Ks=>by simp only [List.cons_append,List.length_cons,aJq_];exact aCm_ xs Ks
theorem aI3_ {S:Nat→Sem1} {out:Option (List T)} {K:List Sem1} {es:List Ty} {flds:Flds} (hF:FOk S es.length es 0 flds) (hl:es.length≤64) (hm:mkOk es=true) {P Q:Pt} {cl:Lf} {s p n:Nat} {cont:Nat→Nat→Nat→PL} {ρ:List T} {t:T} {xs:List (List T)}
  (hP:PathOk ρ P Q) (hg:getV Q t=some (.l xs)) (hp:ρ.length=p) (hs:s < p) (ht:ρ.getD s T.dft=t) (hc:Lf.ev ρ cl=.c (.int .i64 (n:Int))) (hw:∀ r∈xs,WTs es r) (hb:zL_ xs≤1048576) (hn:n+64 * zL_ xs≤1099511627776)
  (hk:∀ f:Sem1,PL.den S rounds (f :: K) (ρ++([T.c (.int .i64 ((zf_ (mkR es) n xs).1:Int)),T.c (.int .i64 (xs.length:Int)),setV Q t (.l (zf_ (mkR es) n xs).2)]++(yU_ Q (setV Q t (.l (zf_ (mkR es) n xs).2))++[T.c (.int .i64 (xs.length:Int)),T.c (.bool false)])))
   (cont p (p+2) (p+3+P.length+2))=out):PL.den S rounds K ρ (lvP flds P cl s p cont)=out:=by
 have hlen:=w1_ xs
 have hbt:∀ i,zL_ (xs.take i)≤zL_ xs:=by
  intro i
  have:=ajb_ (xs.take i) (xs.drop i)
  rw [List.take_append_drop] at this
  omega
 have hmono:=fun i=>adk_ (g:=mkR es) (xs:=xs.take i) (fun m r hr=>by
  have:=aff_ es m r hm (hw r (List.mem_of_mem_take hr))
  omega) n
 unfold lvP
 rw [kI_]
 simp only [List.map_cons,List.map_nil,hc,ev_k,ev_a,ht]
 have hstep:∀ i,(zf_ (mkR es) n (xs.take i)).2.length=(xs.take i).length:=fun i=>qM_ _ _
 refine aNb_ (n:=xs.length) (Inv:=fun i x=>x=[T.c (.int .i64 ((zf_ (mkR es) n (xs.take i)).1:Int)),T.c (.int .i64 (i:Int)),setV Q t (.l ((zf_ (mkR es) n (xs.take i)).2++xs.drop i))]) (Q:=fun o=>o=out) ?_ ?_ ?_ (by unfold rounds;omega)
 ·rintro i x hi rfl self
  left
  refine ⟨_,rfl,?_⟩
  obtain ⟨r,hr⟩:=qs_ hi
  have hwr:=hw r (ws_ hr)
  have hbr:=ke_ hr
  have hb1:=hbt (i+1)
  have hb2:=uJ_ hr
  have hm1:=hmono i
  have htk:=amd_ (g:=mkR es) hr n
  have hsi:=hstep i
  have hil:(xs.take i).length=i:=by simp;omega
  have hlt:(i:Int) < xs.length:=by omega
  have e3:IntKind.i64.wrap ((i:Int)+1)=((i+1:Nat):Int):=by rw [ud_ (by omega) (by omega)];simp
  generalize hN:(zf_ (mkR es) n (xs.take i)).1=N at *
  generalize hA:(zf_ (mkR es) n (xs.take i)).2=A at *
  have hdr:xs.drop i=r :: xs.drop (i+1):=by
   rw [List.drop_eq_getElem_cons hi]
   rw [List.getElem?_eq_getElem hi] at hr
   cases hr
   rfl
  have hgi:=ac3_ (v:=A++xs.drop i) hg
  have hri:(A++xs.drop i)[i]?=some r:=by
   rw [List.getElem?_append_right (by omega),hdr,hsi,hil,Nat.sub_self]
   rfl
  have hll:(A++xs.drop i).length=xs.length:=by simp;omega
  refine jZ_ (PathOk.ext _ hP) hgi (s:=p+2) (p:=p+3) (by simp [hp]) (by omega) (by rw [xR_ hp];rfl) fun d a1 a2 a3=>?_
  have hp1:(ρ++[T.c (.int .i64 (N:Int)),T.c (.int .i64 (i:Int)),setV Q t (.l (A++xs.drop i))]++yU_ Q (setV Q t (.l (A++xs.drop i)))).length=p+3+P.length:=by simp [hp,a1];omega
  have x1:∀ B,(ρ++[T.c (.int .i64 (N:Int)),T.c (.int .i64 (i:Int)),setV Q t (.l (A++xs.drop i))]++yU_ Q (setV Q t (.l (A++xs.drop i)))++B).getD (p+1) T.dft=.c (.int .i64 (i:Int)):=fun B=>by
   rw [List.append_assoc,List.append_assoc,xR_ hp];rfl
  have x0:∀ B,(ρ++[T.c (.int .i64 (N:Int)),T.c (.int .i64 (i:Int)),setV Q t (.l (A++xs.drop i))]++yU_ Q (setV Q t (.l (A++xs.drop i)))++B).getD p T.dft=.c (.int .i64 (N:Int)):=fun B=>by
   have:=xR_ hp 0 ([T.c (.int .i64 (N:Int)),T.c (.int .i64 (i:Int)),setV Q t (.l (A++xs.drop i))]++(yU_ Q (setV Q t (.l (A++xs.drop i)))++B))
   rw [List.append_assoc,List.append_assoc];exact this
  have x2:∀ B,(ρ++[T.c (.int .i64 (N:Int)),T.c (.int .i64 (i:Int)),setV Q t (.l (A++xs.drop i))]++yU_ Q (setV Q t (.l (A++xs.drop i)))++B).getD (p+2) T.dft=setV Q t (.l (A++xs.drop i)):=fun B=>by
   rw [List.append_assoc,List.append_assoc,xR_ hp];rfl
  have hPx:∀ B,PathOk (ρ++[T.c (.int .i64 (N:Int)),T.c (.int .i64 (i:Int)),setV Q t (.l (A++xs.drop i))]++yU_ Q (setV Q t (.l (A++xs.drop i)))++B) P Q:=fun B=>by
   rw [List.append_assoc,List.append_assoc];exact PathOk.ext _ hP
  generalize hρ:ρ++[T.c (.int .i64 (N:Int)),T.c (.int .i64 (i:Int)),setV Q t (.l (A++xs.drop i))]++yU_ Q (setV Q t (.l (A++xs.drop i)))=ρ1 at *
  have y1:=x1 [T.c (.int .i64 (xs.length:Int))]
  have y2:(ρ1++[T.c (.int .i64 (xs.length:Int))]).getD (p+3+P.length) T.dft=.c (.int .i64 (xs.length:Int)):=by rw [← hp1];exact q6_
  have y3:(ρ1++[T.c (.int .i64 (xs.length:Int)),T.c (.bool true)]).getD (p+3+P.length+1) T.dft=.c (.bool true):=by rw [xR_ hp1];rfl
  simp only [yo_,yZ_,List.map_cons,List.map_nil,ev_a,a3,xz_,hll,za_,y1,y2,xH_,hlt,decide_true,List.append_assoc,List.cons_append,List.nil_append,y3,xL_,cond_true]
  refine hF _ (self :: K) P Q (p+1) (p+2) p (p+3+P.length+2) 0 i N _ _ _ (A++xs.drop i) [] r (hPx _) hgi (by simp only [List.length_append,hp1,List.length_cons,List.length_nil]) (by omega) (x2 _) (by omega) (x1 _) (by omega) (x0 _) hri rfl hwr.length hwr (by omega) (by omega) ?_
  intro Ks B s' c' p' q1 q2 q3 q4 q5
  have z1:(ρ1++([T.c (.int .i64 (xs.length:Int)),T.c (.bool true)]++B)).getD (p+1) T.dft=.c (.int .i64 (i:Int)):=x1 _
  rw [List.append_assoc] at q1 q4 q5 ⊢
  have z2:((ρ1++([T.c (.int .i64 (xs.length:Int)),T.c (.bool true)]++B))++[T.c (.int .i64 ((i+1:Nat):Int))]).getD p' T.dft=.c (.int .i64 ((i+1:Nat):Int)):=by rw [← q1];exact q6_
  have z3:=yO_ q4 (by rw [q1];exact q3) [T.c (.int .i64 ((i+1:Nat):Int))]
  have z4:=yO_ q5 (by rw [q1];exact q2) [T.c (.int .i64 ((i+1:Nat):Int))]
  rw [yo_]
  simp only [List.map_cons,List.map_nil,ev_a,ev_k,z1,ug_,e3,za_,Nat.zero_add]
  rw [aCm_]
  simp only [List.map_cons,List.map_nil,ev_a,z2,z3,z4]
  rw [htk]
  congr 4
  rw [am0_ hg]
  congr 2
  rw [hdr,List.set_append_right _ _ (by omega),hsi,hil,Nat.sub_self]
  simp
 ·rintro x rfl self
  rw [show xs.take xs.length=xs from List.take_length,show xs.drop xs.length=[] from List.drop_length,List.append_nil]
  have hgi:=ac3_ (v:=(zf_ (mkR es) n xs).2) hg
  refine jZ_ (PathOk.ext _ hP) hgi (s:=p+2) (p:=p+3) (by simp [hp]) (by omega) (by rw [xR_ hp];rfl) fun d a1 a2 a3=>?_
  have hp1:(ρ++[T.c (.int .i64 ((zf_ (mkR es) n xs).1:Int)),T.c (.int .i64 (xs.length:Int)),setV Q t (.l (zf_ (mkR es) n xs).2)]++yU_ Q (setV Q t (.l (zf_ (mkR es) n xs).2))).length=p+3+P.length:=by simp [hp,a1];omega
  have x1:∀ B,(ρ++[T.c (.int .i64 ((zf_ (mkR es) n xs).1:Int)),T.c (.int .i64 (xs.length:Int)),setV Q t (.l (zf_ (mkR es) n xs).2)]++yU_ Q (setV Q t (.l (zf_ (mkR es) n xs).2))++B).getD (p+1) T.dft=.c (.int .i64 (xs.length:Int)):=fun B=>by
   rw [List.append_assoc,List.append_assoc,xR_ hp];rfl
  have x0:∀ B,(ρ++([T.c (.int .i64 ((zf_ (mkR es) n xs).1:Int)),T.c (.int .i64 (xs.length:Int)),setV Q t (.l (zf_ (mkR es) n xs).2)]++(yU_ Q (setV Q t (.l (zf_ (mkR es) n xs).2))++B))).getD p T.dft=.c (.int .i64 ((zf_ (mkR es) n xs).1:Int)):=fun B=>xR_ hp 0 _
  have x2:∀ B,(ρ++([T.c (.int .i64 ((zf_ (mkR es) n xs).1:Int)),T.c (.int .i64 (xs.length:Int)),setV Q t (.l (zf_ (mkR es) n xs).2)]++(yU_ Q (setV Q t (.l (zf_ (mkR es) n xs).2))++B))).getD (p+2) T.dft=setV Q t (.l (zf_ (mkR es) n xs).2):=fun B=>by
   rw [xR_ hp];rfl
  have y1:=x1 [T.c (.int .i64 (xs.length:Int))]
  have y2:(ρ++[T.c (.int .i64 ((zf_ (mkR es) n xs).1:Int)),T.c (.int .i64 (xs.length:Int)),setV Q t (.l (zf_ (mkR es) n xs).2)]++yU_ Q (setV Q t (.l (zf_ (mkR es) n xs).2))++[T.c (.int .i64 (xs.length:Int))]).getD (p+3+P.length) T.dft=.c (.int .i64 (xs.length:Int)):=by rw [← hp1];exact q6_
  have y3:(ρ++[T.c (.int .i64 ((zf_ (mkR es) n xs).1:Int)),T.c (.int .i64 (xs.length:Int)),setV Q t (.l (zf_ (mkR es) n xs).2)]++yU_ Q (setV Q t (.l (zf_ (mkR es) n xs).2))++[T.c (.int .i64 (xs.length:Int)),T.c (.bool false)]).getD (p+3+P.length+1) T.dft=.c (.bool false):=by rw [xR_ hp1];rfl
  rw [yo_]
  simp only [List.map_cons,List.map_nil,ev_a,a3,xz_,qM_,za_]
  rw [yo_]
  simp only [List.map_cons,List.map_nil,ev_a,y1,y2,xH_,Int.lt_irrefl,decide_false,za_]
  rw [yZ_,List.append_assoc _ [_] [_]]
  simp only [List.cons_append,List.nil_append] at y3 ⊢
  rw [y3]
  simp only [xL_,cond_false]
  have:=hk self
  simpa using this
 ·rw [List.take_zero,List.drop_zero]
  simp only [zf_,List.nil_append,aj0_ hg]
  rfl
theorem aRw_ {S:Nat→Sem1} {out:Option (List T)} {K:List Sem1} {es:List Ty} {flds:Flds} (hF:FOk S es.length es 0 flds) (hl:es.length≤64) (hm:mkOk es=true) {P Q:Pt} {cl:Lf} {s p n:Nat} {cont:Nat→Nat→Nat→PL} {ρ:List T} {t:T} {xs:List (List T)}
  (hP:PathOk ρ P Q) (hg:getV Q t=some (.l xs)) (hp:ρ.length=p) (hs:s < p) (ht:ρ.getD s T.dft=t) (hc:Lf.ev ρ cl=.c (.int .i64 (n:Int))) (hw:∀ r∈xs,WTs es r) (hb:zL_ xs≤1048576) (hn:n+64 * zL_ xs≤1099511627776)
  (hk:∀ (f:Sem1) (B:List T) (c' s' p':Nat),(ρ++B).length=p'→c' < p'→s' < p'→(ρ++B).getD c' T.dft=.c (.int .i64 ((zf_ (mkR es) n xs).1:Int))→(ρ++B).getD s' T.dft=setV Q t (.l (zf_ (mkR es) n xs).2) →
   PL.den S rounds (f :: K) (ρ++B) (cont c' s' p')=out):PL.den S rounds K ρ (lvP flds P cl s p cont)=out:=by
 refine aI3_ hF hl hm hP hg hp hs ht hc hw hb hn fun f=>?_
 have hPQ:∀ {P Q:Pt} {t d:T},PathOk ρ P Q→getV Q t=some d→(yU_ Q t).length=P.length:=by
  intro P
  induction P with
  | nil=>intro Q t d hP hg;cases Q with
   | nil=>rfl
   | cons _ _=>exact hP.elim
  | cons q P ih =>
   intro Q t d hP hg
   obtain ⟨a,w,j⟩:=q
   cases Q with
   | nil=>exact hP.elim
   | cons q Q =>
    obtain ⟨i,w',j'⟩:=q
    obtain ⟨_,_,_,_,h5⟩:=hP
    obtain ⟨xs,r,ys,rfl,g1,g2,g3,g4⟩:=qq_ hg
    rw [aic_ g1 g2 g3,List.length_cons,List.length_cons,ih h5 g4]
 have hcl:=hPQ hP (ac3_ (v:=(zf_ (mkR es) n xs).2) hg)
 refine hk f _ _ _ _ (by simp [hp,hcl];omega) (by omega) (by omega) ?_ ?_
 ·exact xR_ hp 0 _
 ·rw [xR_ hp];rfl
theorem ki_ {S:Nat→Sem1} {out:Option (List T)} {K:List Sem1} {es:List Ty} {flds:Flds} (hF:FOk S es.length es 0 flds) (hl:es.length≤64) (hm:mkOk es=true) {cl:Lf} {s p n:Nat} {rest:PL} {ρ:List T} {xs:List (List T)}
  (hp:ρ.length=p) (hs:s < p) (ht:ρ.getD s T.dft=.l xs) (hc:Lf.ev ρ cl=.c (.int .i64 (n:Int))) (hw:∀ r∈xs,WTs es r) (hb:zL_ xs≤1048576) (hn:n+64 * zL_ xs≤1099511627776)
  (hk:∀ f:Sem1,PL.den S rounds (f :: K) (ρ++[T.c (.int .i64 ((zf_ (mkR es) n xs).1:Int)),T.c (.int .i64 (xs.length:Int)),.l (zf_ (mkR es) n xs).2,T.c (.int .i64 (xs.length:Int)),T.c (.bool false)]) rest=out) :
  PL.den S rounds K ρ (lvP flds [] cl s p fun _ _ _=>rest)=out :=
 aI3_ hF hl hm (P:=[]) (Q:=[]) trivial rfl hp hs ht hc hw hb hn hk
set_option linter.unusedSimpArgs false
def TOk (S:Nat→Sem1) (f:Ty):Prop :=
 ∀ (w j:Nat) (out:Option (List T)) (K:List Sem1) (P Q:Pt) (k s c p q kv n:Nat) (cont:Nat→Nat→Nat→Nat→PL) (ρ:List T) (t:T) (xs:List (List T)) (dn ts:List T) (u:T),PathOk ρ P Q→getV Q t=some (.l xs)→ρ.length=p→s < p→ρ.getD s T.dft=t →
  k < p→ρ.getD k T.dft=.c (.int .i64 (kv:Int))→c < p→ρ.getD c T.dft=.c (.int .i64 (n:Int))→xs[kv]?=some (dn++u :: ts)→dn.length=j→(dn++u :: ts).length=w→WT f u→bulk u≤1048576→n+1+64 * bulk u≤1099511627776 →
  (∀ (Ks:List Sem1) (B:List T) (s' c' p':Nat),(ρ++B).length=p'→s' < p'→c' < p'→(ρ++B).getD c' T.dft=.c (.int .i64 ((mkT f n u).1:Int))→(ρ++B).getD s' T.dft=setV Q t (.l (xs.set kv (dn++(mkT f n u).2 :: ts))) →
   PL.den S rounds (Ks++K) (ρ++B) (cont s' c' p' (q+Ks.length))=out)→PL.den S rounds K ρ (apx_ f w j P k s c p q cont)=out
theorem aRd_ {S:Nat→Sem1}:TOk S (.i .i64):=by
 intro w j out K P Q k s c p q kv n cont ρ t xs dn ts u hP hg hp hs ht hk hkv hc hn hr hj hw hu hb hbn hcont
 rw [alp_] at hcont
 have e3:IntKind.i64.wrap ((n:Int)+1)=((n+1:Nat):Int):=by rw [ud_ (by omega) (by omega)];simp
 simp only [apx_]
 refine aKu_ hP hg hp hs ht hk hkv hc hn rfl hr hw (by simp at hw;omega) fun B s' p' q1 q2 q3=>?_
 have x:=yO_ hn (by omega) B
 rw [yo_]
 simp only [List.map_cons,List.map_nil,ev_a,ev_k,x,ug_,e3,za_,List.append_assoc]
 rw [w3_ hr hj] at q3
 refine hcont [] _ s' p' (p'+1) (by simp at q1 ⊢;omega) (by omega) (by omega) ?_ ?_
 ·rw [← List.append_assoc,← q1];exact q6_
 ·rw [← List.append_assoc];exact yO_ q3 (by rw [q1];exact q2) _
theorem aQ5_ {S:Nat→Sem1}:TOk S .b:=by
 intro w j out K P Q k s c p q kv n cont ρ t xs dn ts u hP hg hp hs ht hk hkv hc hn hr hj hw hu hb hbn hcont
 rw [alg_] at hcont
 have e3:IntKind.i64.wrap ((n:Int)+1)=((n+1:Nat):Int):=by rw [ud_ (by omega) (by omega)];simp
 have hbeq:(((n % 3:Nat):Int) == (0:Int))=(n % 3 == 0):=aCv_ (n % 3) 0
 have y1:(ρ++[T.c (.int .i64 ((n % 3:Nat):Int))]).getD p T.dft=.c (.int .i64 ((n % 3:Nat):Int)):=by rw [← hp];exact q6_
 simp only [apx_]
 rw [yo_]
 simp only [List.map_cons,List.map_nil,ev_a,ev_k,hn,aCg_,za_]
 rw [yo_]
 simp only [List.map_cons,List.map_nil,ev_a,ev_k,y1,apk_,hbeq,za_,List.append_assoc,List.cons_append,List.nil_append]
 have y2:(ρ++[T.c (.int .i64 ((n % 3:Nat):Int)),T.c (.bool (n % 3 == 0))]).getD (p+1) T.dft=T.c (.bool (n % 3 == 0)):=by rw [xR_ hp];rfl
 refine aKu_ (PathOk.ext _ hP) hg (by simp [hp]) (by omega) (yO_ ht (by omega) _) (by omega) (yO_ hkv (by omega) _) (by omega) y2 rfl hr hw (by simp at hw;omega) fun B s' p' q1 q2 q3=>?_
 simp only [List.append_assoc] at q1 q3 ⊢
 have x:=yO_ hn (by omega) ([T.c (.int .i64 ((n % 3:Nat):Int)),T.c (.bool (n % 3 == 0))]++B)
 rw [yo_]
 simp only [List.map_cons,List.map_nil,ev_a,ev_k,x,ug_,e3,za_]
 rw [w3_ hr hj] at q3
 rw [List.append_assoc]
 refine hcont [] _ s' p' (p'+1) (by simp at q1 ⊢;omega) (by omega) (by omega) ?_ ?_
 ·rw [← List.append_assoc,← q1];exact q6_
 ·rw [← List.append_assoc];exact yO_ q3 (by rw [q1];exact q2) _
theorem aOq_ {S:Nat→Sem1} {es:List Ty} (hF:FOk S es.length es 0 (uK_ es es.length 0)) (hl:es.length≤64) (hm:mkOk es=true):TOk S (.sl es):=by
 intro w j out K P Q k s c p q kv n cont ρ t xs dn ts u hP hg hp hs ht hk hkv hc hn hr hj hw hu hb hbn hcont
 unfold WT at hu
 obtain ⟨ys,rfl,_,hy⟩:=hu
 rw [ajn_] at hcont
 rw [zH_] at hb hbn
 have hrj:(dn++T.l ys :: ts)[j]?=some (.l ys):=by subst hj;simp
 have hg2:getV (Q++[(kv,w,j)]) t=some (.l ys):=by rw [al8_,hg];exact aqs_ hr hw hrj rfl
 simp only [apx_]
 refine jZ_ hP hg hp hs ht fun e a1 a2 a3=>?_
 rw [yo_]
 simp only [List.map_cons,List.map_nil,ev_a,a3,yO_ hkv (by omega) _,vI_ hr,za_,List.append_assoc]
 refine jZ_ (PathOk.ext _ hP) hg (by simp [hp,a1];omega) (by omega) (yO_ ht (by omega) _) fun e2 b1 b2 b3=>?_
 simp only [List.append_assoc] at b3 ⊢
 rw [yo_]
 simp only [List.map_cons,List.map_nil,ev_a,b3,yO_ hkv (by omega) _,aJr_ hr hw hrj,za_,List.append_assoc]
 refine aRw_ hF hl hm (PathOk.snoc (by simp;omega) (yO_ hkv (by omega) _) (PathOk.ext _ hP)) hg2 (by simp [hp,a1];omega) (by omega) (yO_ ht (by omega) _) (n:=n) (by rw [ev_a];exact yO_ hn (by omega) _) hy hb (by omega) fun f B c' s' p' q1 q2 q3 q4 q5=>?_
 rw [List.append_assoc] at q1 q4 q5 ⊢
 refine hcont [f] _ s' c' p' q1 q3 q2 q4 ?_
 rw [q5,ama_ hg]
 congr 1
 have e0:((xs[kv]?).bind (·[j]?)).getD T.dft=.l ys:=by rw [hr];simp [hrj]
 simp only [setV,e0]
 rw [w3_ hr hj]
mutual
theorem aO9_ {S:Nat→Sem1}:∀ (f:Ty),uw_ f=true→TOk S f
 | .i k,h=>by
  cases k with
  | i64=>exact aRd_
  | _=>simp [uw_] at h
 | .b,h=>aQ5_
 | .s,h=>by simp [uw_] at h
 | .sl es,h=>aOq_ (uf_ es 0 (abk_ h).2 es.length) (abk_ h).1 (abk_ h).2
theorem uf_ {S:Nat→Sem1}:∀ (fs:List Ty) (j:Nat),mkOk fs=true→∀ w,FOk S w fs j (uK_ fs w j)
 | [],j,h,w=>by
  intro out K P Q k s c p q kv n cont ρ t xs dn ts hP hg hp hs ht hk hkv hc hn hr hj hw hu hb hbn hcont
  unfold WTs at hu
  subst hu
  simp only [uK_]
  have:=hcont [] [] s c p (by simpa using hp) hs hc (by simpa [jM_] using hn) (by
   rw [jM_,aya_ hr,aj0_ hg];simpa using ht)
  simpa using this
 | f :: fs,j,h,w=>by
  intro out K P Q k s c p q kv n cont ρ t xs dn ts hP hg hp hs ht hk hkv hc hn hr hj hw hu hb hbn hcont
  unfold WTs at hu
  obtain ⟨u,ts',rfl,h1,h2⟩:=hu
  have hm:=ado_ h
  have hle:=apd_ f n u hm.1 h1
  simp only [ze_,List.length_cons] at hb hbn
  simp only [uK_]
  refine aO9_ f hm.1 w j out K P Q k s c p q kv n _ ρ t xs dn ts' u hP hg hp hs ht hk hkv hc hn hr hj hw h1 (by omega) (by omega) fun Ks B s' c' p' q1 q2 q3 q4 q5=>?_
  have hkl:kv < xs.length:=(List.getElem?_eq_some_iff.1 hr).1
  refine uf_ fs (j+1) hm.2 w out (Ks++K) P Q k s' c' p' (q+Ks.length) kv (mkT f n u).1 cont (ρ++B) _ (xs.set kv (dn++(mkT f n u).2 :: ts')) (dn++[(mkT f n u).2]) ts' (PathOk.ext _ hP) (ac3_ hg) q1 q2 q5 (by simp at q1;omega) (yO_ hkv (by omega) _) q3 q4
   (by simp [hkl]) (by simp [hj]) (by simp at hw ⊢;omega) h2 (by omega) (by omega) fun Ks2 B2 s2 c2 p2 r1 r2 r3 r4 r5=>?_
  rw [List.append_assoc] at r1 r4 r5 ⊢
  have:=hcont (Ks2++Ks) (B++B2) s2 c2 p2 r1 r2 r3 (by rw [r4,vk_]) (by
   rw [r5,am0_ hg,List.set_set,vk_,List.append_assoc]
   rfl)
  rw [List.append_assoc,List.length_append] at this
  rw [show q+Ks.length+Ks2.length=q+(Ks2.length+Ks.length) by omega]
  exact this
end
set_option linter.defProp false in
def pb:=(And.intro (And.intro (And.intro (And.intro (And.intro (@x8_) (@yo_)) (And.intro (@wH_) (And.intro (@yZ_) (@wE_)))) (And.intro (And.intro (@aJq_) (And.intro (@List.map_cons.{0,0}) (@List.map_nil.{0,0}))) (And.intro (@ev_k) (And.intro (@ev_e) (@ev_a))))) (And.intro (And.intro (And.intro (@List.cons_append.{0}) (@List.nil_append.{0})) (And.intro (@List.append_assoc.{0}) (And.intro (@List.getD_cons_zero.{0}) (@List.getD_cons_succ.{0})))) (And.intro (And.intro (@za_) (And.intro (@xL_) (@cond_true.{1}))) (And.intro (@cond_false.{1}) (And.intro (@decide_true) (@decide_false)))))) (And.intro (And.intro (And.intro (And.intro (@xz_) (@aC7_)) (And.intro (@vR_) (And.intro (@ahf_) (@awd_)))) (And.intro (And.intro (@xH_) (And.intro (@aJl_) (@aK0_))) (And.intro (@aHi_) (And.intro (@apk_) (@afs_))))) (And.intro (And.intro (And.intro (@ug_) (@ae5_)) (And.intro (@aCu_) (And.intro (@aCp_) (@an3_)))) (And.intro (And.intro (@awc_) (And.intro (@axm_) (@Bool.not_true))) (And.intro (@Bool.not_false) (And.intro (@bne_self_eq_false.{0}) (@beq_self_eq_true.{0})))))))
set_option linter.unusedSimpArgs false
theorem aQm_ {sc:Bool} {w:Nat} {xs ys:List (List T)} (h:xs.length+ys.length < wS_) (hs:(!sc || ys.all (·.all scal))=true) (h1:okW w xs=true) (h2:okW w ys=true):Prim.ev (.app sc w) [.l xs,.l ys]=some (.l (xs++ys)):=by
 simp only [Prim.ev,h,hs,h1,h2,if_true]
theorem xA_ {w:Nat} {ms:List Bool} {ts:List T} (hw:0 < w) (hm:wC_ ms ts=true) (hl:ts.length=w):Prim.ev (.lit w ms) ts=some (.l [ts]):=by
 have h1:ts.length / w=1:=by rw [hl];exact Nat.div_self hw
 have h2:ts.take w=ts:=by rw [← hl];exact List.take_length
 simp only [Prim.ev,hw,hm,h1,if_true,x7_,h2]
theorem alt_ {fs:List Ty} {xs:List (List T)} (h1:xs.length≤maxLen) (h2:∀ r∈xs,WTs fs r):WT (.sl fs) (.l xs):=by
 unfold WT
 exact ⟨xs,rfl,h1,h2⟩
theorem aIp_ {fs:List Ty} {xs:List (List T)} (h1:xs.length≤maxLen) (h2:∀ r∈xs,WTs fs r):WTs [.sl fs] [.l xs]:=by
 unfold WTs
 refine ⟨_,[],rfl,alt_ h1 h2,?_⟩
 unfold WTs
 rfl
set_option linter.unusedSimpArgs false
def sgOf:List (Nat × Sig)→Nat→Option Sig
 | [],_=>none
 | e :: l,g=>bif Nat.beq e.1 g then some e.2 else sgOf l g
theorem axg_:∀ {l:List (Nat × Sig)} {g:Nat} {sg:Sig},sgOf l g=some sg→(g,sg)∈l
 | [],_,_,h=>by cases h
 | e :: l,g,sg,h=>by
  unfold sgOf at h
  cases hb:Nat.beq e.1 g with
  | true =>
   rw [hb] at h
   simp only [cond_true,Option.some.injEq] at h
   have:=Nat.eq_of_beq_eq_true hb
   subst this;subst h
   exact .head _
  | false =>
   rw [hb] at h
   exact .tail _ (axg_ h)
def Cx.on (cx:Cx) (l:List (Nat × Sig)):Cx:={ cx with sg:=sgOf l }
def Fok (P:Program) (sg:Sig) (g:Nat) (F:Sem1):Prop:=FnIn P g∧aop_ P sg g F
structure Seat (P:Program) (cx:Cx):Prop where
 tys:TyAll P cx
 into:∀ g fn,cx.fn g=some fn→P.funcs[g]?=some fn∧FnIn P g
 mx:P.follows .mixedOrders=true
def aHs_:List ((Nat × Nat × Nat) × Js)→Nat→Nat→Nat→Option Js
 | [],_,_,_=>none
 | e :: l,f,k,j=>bif Nat.beq e.1.1 f && (Nat.beq e.1.2.1 k && Nat.beq e.1.2.2 j) then some e.2 else aHs_ l f k j
def fzOf:List (Nat × Nat × Nat)→Nat→Nat→Nat→Bool
 | [],_,_,_=>false
 | e :: l,f,k,j=>(Nat.beq e.1 f && (Nat.beq e.2.1 k && Nat.beq e.2.2 j)) || fzOf l f k j
def memN:List Nat→Nat→Bool
 | [],_=>false
 | e :: l,f=>Nat.beq e f || memN l f
theorem Fok.mk {P:Program} {cx:Cx} (Z:Seat P cx) {R n g:Nat} {fn:Func} {sg:Sig} {pl:PL} {l:List (Nat × Sig)} {S:Nat→Sem1} (hin:FnIn P g) (hf:P.funcs[g]?=some fn)
  (hl:∀ x∈l,Fok P x.2 x.1 (S x.1)) (h:aom_ (cx.on l) n g fn sg=some pl):Fok P sg g fun ts=>pl.den S R [] ts :=
 ⟨hin,arn_ (cx:=cx.on l) ⟨⟨Z.tys.ty⟩,fun g' sg' h'=>hl _ (axg_ h'),Z.into⟩ Z.mx hf h⟩
theorem FnIn.mk {P:Program} {g:Nat} {fn:Func} (h:P.funcs[g]?=some fn) (h1:(fn.name == "runtime.NumGoroutine")=false) (h2:fn.body.isNone=false):FnIn P g:=⟨fn,h,h1,h2⟩
structure Kok (P:Program) where
 g:Nat
 sg:Sig
 F:Sem1
 ok:Fok P sg g F
def ksg {P:Program} (l:List (Kok P)):List (Nat × Sig):=l.map fun k=>(k.g,k.sg)
def kS {P:Program} (l:List (Kok P)):List (Nat × Sem1):=l.map fun k=>(k.g,k.F)
theorem axj_ {P:Program}:∀ {ks:List (Kok P)} {g:Nat} {sg:Sig},sgOf (ksg ks) g=some sg→Fok P sg g (pick (kS ks) g)
 | [],g,sg,h=>by cases h
 | k :: ks,g,sg,h=>by
  simp only [ksg,List.map_cons,sgOf] at h
  simp only [kS,List.map_cons,pick]
  cases hb:Nat.beq k.g g with
  | true =>
   rw [hb,cond_true] at h
   cases h
   rw [cond_true,← Nat.eq_of_beq_eq_true hb]
   exact k.ok
  | false =>
   rw [hb,cond_false] at h
   rw [cond_false]
   exact axj_ h
def Kok.mk2 {P:Program} {cx:Cx} (Z:Seat P cx) (g:Nat) {fn:Func} (sg:Sig) (pl:PL) (F:Sem1) (ks:List (Kok P)) (hf:P.funcs[g]?=some fn) (h:aom_ (cx.on (ksg ks)) 8 g fn sg=some pl)
  (h1:((fn.name == "runtime.NumGoroutine") || fn.body.isNone)=false) (hF:F=Fs pl (kS ks)):Kok P :=
 ⟨g,sg,F,⟨fn,hf,(Bool.or_eq_false_iff.1 h1).1,(Bool.or_eq_false_iff.1 h1).2⟩,by
  rw [hF]
  exact arn_ (cx:=cx.on (ksg ks)) ⟨⟨Z.tys.ty⟩,fun g' sg' h'=>axj_ h',Z.into⟩ Z.mx hf h⟩
def tysB (P:Program) (l:List (Nat × TI)):Bool:=l.all fun x=>tyB P x.1 x.2
def tiOf:List (Nat × TI)→Nat→Option TI
 | [],_=>none
 | e :: l,g=>bif Nat.beq e.1 g then some e.2 else tiOf l g
theorem au9_:∀ {l:List (Nat × TI)} {g:Nat} {sg:TI},tiOf l g=some sg→(g,sg)∈l
 | [],_,_,h=>by cases h
 | e :: l,g,sg,h=>by
  unfold tiOf at h
  cases hb:Nat.beq e.1 g with
  | true =>
   rw [hb] at h
   simp only [cond_true,Option.some.injEq] at h
   have:=Nat.eq_of_beq_eq_true hb
   subst this;subst h
   exact .head _
  | false =>
   rw [hb] at h
   exact .tail _ (au9_ h)
theorem aRg_ {P:Program} {cx:Cx} {l:List (Nat × TI)} (h:tysB P l=true) (he:cx.ty=tiOf l):TyAll P cx:=by
 refine ⟨fun t ti ht=>?_⟩
 rw [he] at ht
 exact aQo_ (List.all_eq_true.1 h _ (au9_ ht))
def fnOf:List (Nat × Func)→Nat→Option Func
 | [],_=>none
 | e :: l,g=>bif Nat.beq e.1 g then some e.2 else fnOf l g
theorem aOp_ {P:Program} {cx:Cx} {l:List (Nat × Func)} (h:∀ x∈l,P.funcs[x.1]?=some x.2∧FnIn P x.1) (he:cx.fn=fnOf l):∀ g fn,cx.fn g=some fn→P.funcs[g]?=some fn∧FnIn P g:=by
 intro g fn hg
 rw [he] at hg
 clear he
 induction l with
 | nil=>cases hg
 | cons e l ih =>
  unfold fnOf at hg
  cases hb:Nat.beq e.1 g with
  | true =>
   rw [hb] at hg
   simp only [cond_true,Option.some.injEq] at hg
   have:=Nat.eq_of_beq_eq_true hb
   subst this;subst hg
   exact h _ (.head _)
  | false =>
   rw [hb] at hg
   exact ih (fun x hx=>h x (.tail _ hx)) hg
open Go.ChangeShapes Go.WideShapes Go.ChangeAt Go.RowKit
section
variable {P:Program}
def tyFs (P:Program) (r:TypeId→Option (List Ty)):Nat→List Field→Option (List Ty)
 | _,[]=>some []
 | o,f :: fs=>bif Nat.beq f.offset o then (r f.type).bind fun a=>bif Nat.beq (P.cellsOf f.type) a.length then (tyFs P r (o+a.length) fs).bind fun b=>some (a++b) else none else none
def tyOf (P:Program):Nat→TypeId→Option (List Ty)
 | 0,_=>none
 | n+1,t =>
  match P.underlying t with
  | some (.int k)=>some [.i k]
  | some .bool=>some [.b]
  | some .string=>some [.s]
  | some (.slice e)=>(tyOf P n e).bind fun fs=>bif fs.isEmpty then none else some [.sl fs]
  | some (.struct fs)=>(tyFs P (tyOf P n) 0 fs.toList).bind fun ts=>bif Nat.beq ts.length (P.cellsOf t) then some ts else none
  | _=>none
variable {H:Type} {enc:TypeId × Value→H} {w:World} {base:Nat} {spare:Nat→Bool} {held:Bool} {ω:Nat→Option Lb}
theorem DenL.append {ω:Nat→Option Lb}:∀ {ts ts':List T} {vs vs':List Value},DenL ω w ts vs→DenL ω w ts' vs'→DenL ω w (ts++ts') (vs++vs')
 | [],ts',[],vs',_,h'=>h'
 | t :: ts,ts',v :: vs,vs',h,h'=>⟨h.1,DenL.append h.2 h'⟩
 | [],_,_ :: _,_,h,_=>h.elim
 | _ :: _,_,[],_,h,_=>h.elim
theorem au7_ {r:TypeId→Option (List Ty)} {cs:List Value}:∀ {fl:List Field} {o:Nat} {ys:List Ty},tyFs P r o fl=some ys →
  (∀ f∈fl,∀ a,r f.type=some a→∃ ts,DenL ω w ts ((cs.drop f.offset).take (P.cellsOf f.type))∧WTs a ts)→∃ ts,DenL ω w ts ((cs.drop o).take ys.length)∧WTs ys ts
 | [],o,ys,h,_=>by
  simp only [tyFs,Option.some.injEq] at h
  subst h
  exact ⟨[],by simp [DenL],rfl⟩
 | f :: fl,o,ys,h,hr=>by
  unfold tyFs at h
  cases h1:Nat.beq f.offset o with
  | false=>simp [h1] at h
  | true =>
   simp only [h1,cond_true,Option.bind_eq_some_iff] at h
   obtain ⟨a,ha,h⟩:=h
   cases h2:Nat.beq (P.cellsOf f.type) a.length with
   | false=>simp [h2] at h
   | true =>
    simp only [h2,cond_true,Option.bind_eq_some_iff,Option.some.injEq] at h
    obtain ⟨b,hb,rfl⟩:=h
    have e1:=Nat.eq_of_beq_eq_true h1
    have e2:=Nat.eq_of_beq_eq_true h2
    obtain ⟨t1,g1,g2⟩:=hr f (.head _) a ha
    obtain ⟨t2,g3,g4⟩:=au7_ hb fun f hf=>hr f (.tail _ hf)
    refine ⟨t1++t2,?_,g2.append g4⟩
    rw [e1,e2] at g1
    rw [List.length_append,List.take_add,List.drop_drop]
    exact g1.append g3
theorem aM0_:∀ (n m:Nat) {t:TypeId} {cs:List Value} {x:DataW H × List MemPlace} {fs:List Ty},DataW.trod enc P w 0 spare held n t cs=some x→tyOf P m t=some fs →
  (∀ b,ω b=none)→∃ ts,DenL ω w ts cs∧WTs fs ts:=by
 intro n
 induction n with
 | zero=>intro m t cs x fs h;simp [DataW.trod] at h
 | succ n ih =>
  intro m t cs x fs h ht hω
  cases m with
  | zero=>cases ht
  | succ m =>
   unfold tyOf at ht
   cases hu:P.underlying t with
   | none=>rw [hu] at ht;cases ht
   | some u =>
    rw [hu] at ht
    cases u with
    | int k =>
     simp only [Option.some.injEq] at ht
     subst ht
     obtain ⟨a,e0,e1,wa⟩:=DataW.trod_int hu h
     subst e0 e1
     exact ⟨[.c (.int k a)],⟨.c rfl,trivial⟩,_,_,rfl,⟨_,rfl,wa⟩,rfl⟩
    | bool =>
     simp only [Option.some.injEq] at ht
     subst ht
     obtain ⟨b,rfl,_⟩:=DataW.trod_bool hu h
     exact ⟨[.c (.bool b)],⟨.c rfl,trivial⟩,_,_,rfl,⟨_,rfl⟩,rfl⟩
    | string =>
     simp only [Option.some.injEq] at ht
     subst ht
     obtain ⟨s,rfl,_,hs⟩:=DataW.trod_string hu h
     exact ⟨[.c (.string s)],⟨.c rfl,trivial⟩,_,_,rfl,⟨_,rfl,hs⟩,rfl⟩
    | slice e =>
     simp only [Option.bind_eq_some_iff] at ht
     obtain ⟨gs,hg,ht⟩:=ht
     cases hz:gs.isEmpty with
     | true=>simp [hz] at ht
     | false =>
      simp only [hz,cond_false,Option.some.injEq] at ht
      subst ht
      rcases DataW.trod_slice hu h with ⟨rfl,_⟩ | ⟨a,len,cap,elems,rest,n',e1,rfl,_,_,hlc,hcm,hel,hat,_⟩
      ·exact ⟨[.l []],⟨.nil,trivial⟩,_,_,rfl,⟨[],rfl,Nat.zero_le _,by simp⟩,rfl⟩
      ·cases e1
       have each:∀ i,i < len→∃ vs ts,w.cells? 0 (a.add (i * P.cellsOf e)) (P.cellsOf e)=some vs∧DenL ω w ts vs∧WTs gs ts:=by
        intro i hi
        have h1:=hat i hi
        rw [← hel] at hi
        rw [List.getElem?_eq_getElem hi,Option.bind_eq_some_iff] at h1
        obtain ⟨vs,g1,g2⟩:=h1
        obtain ⟨ts,g3,g4⟩:=ih m g2 hg hω
        exact ⟨vs,ts,g1,g3,g4⟩
       by_cases h0:len=0
       ·subst h0
        exact ⟨[.l []],⟨.nil,trivial⟩,_,_,rfl,⟨[],rfl,Nat.zero_le _,by simp⟩,rfl⟩
       ·have hc:=fun i=>fun hi:i < len=>Classical.choose_spec (each i hi)
        let vf:Nat→List Value:=fun i=>if hi:i < len then Classical.choose (each i hi) else []
        have hv:∀ i,i < len→∃ ts,w.cells? 0 (a.add (i * P.cellsOf e)) (P.cellsOf e)=some (vf i)∧DenL ω w ts (vf i)∧WTs gs ts:=by
         intro i hi
         have:vf i=Classical.choose (each i hi):=by simp [vf,hi]
         rw [this]
         exact hc i hi
        have ht:∃ tf:Nat→List T,∀ i,i < len→w.cells? 0 (a.add (i * P.cellsOf e)) (P.cellsOf e)=some (vf i)∧DenL ω w (tf i) (vf i)∧WTs gs (tf i):=by
         refine ⟨fun i=>if hi:i < len then Classical.choose (hv i hi) else [],fun i hi=>?_⟩
         have:=Classical.choose_spec (hv i hi)
         simpa [hi] using this
        obtain ⟨tf,htf⟩:=ht
        have hwd:∀ i,i < len→(vf i).length=P.cellsOf e:=fun i hi=>(World.cells?_some (htf i hi).1).2.1
        have hgl:∀ i,i < len→(tf i).length=gs.length:=fun i hi=>(htf i hi).2.2.length
        have hwp:0 < P.cellsOf e:=by
         have h1:=hwd 0 (by omega)
         have h2:=hgl 0 (by omega)
         have h3:=(htf 0 (by omega)).2.1.length
         cases gs with
         | nil=>simp at hz
         | cons _ _=>simp at h2;omega
        obtain ⟨b,off,spot⟩:=a
        have hcell:∀ i j,i < len→j < P.cellsOf e→w.cell? ((⟨b,off,spot⟩:Addr).add (i * P.cellsOf e) |>.add j)=(vf i)[j]?:=fun i j hi hj=>(World.cells?_some (htf i hi).1).2.2 j hj
        have hspot:spot=none:=by
         have:=hcell 0 0 (by omega) hwp
         simp only [Nat.zero_mul,Addr.add,if_true] at this
         have hl:0 < (vf 0).length:=by rw [hwd 0 (by omega)];exact hwp
         rw [List.getElem?_eq_getElem hl] at this
         unfold World.cell? at this
         split at this
         ·split at this
          ·cases this
          ·rename_i h;simpa using h
         ·cases this
        subst hspot
        have hadd:∀ i j,((⟨b,off,none⟩:Addr).add (i * P.cellsOf e) |>.add j)=⟨b,off+(i * P.cellsOf e+j),none⟩:=by
         intro i j
         have e1:∀ k,(⟨b,off,none⟩:Addr).add k=⟨b,off+k,none⟩:=by
          intro k
          unfold Addr.add
          split
          ·rename_i h;subst h;rfl
          ·rfl
         have e2:∀ o k,(⟨b,o,none⟩:Addr).add k=⟨b,o+k,none⟩:=by
          intro o k
          unfold Addr.add
          split
          ·rename_i h;subst h;rfl
          ·rfl
         rw [e1,e2,Nat.add_assoc]
        have hlt:b < w.heap.size:=by
         have:=World.cells?_block (htf 0 (by omega)).1 hwp
         rw [Nat.zero_mul] at this
         exact this
        have hat2:∀ i j t,at2 ((List.range len).map tf) i j=some t→i < len∧(tf i)[j]?=some t:=by
         intro i j t h
         unfold at2 at h
         rw [Option.bind_eq_some_iff] at h
         obtain ⟨r,h1,h2⟩:=h
         rw [List.getElem?_map,Option.map_eq_some_iff] at h1
         obtain ⟨i',h3,rfl⟩:=h1
         have hi:i < len:=by
          rcases Nat.lt_or_ge i len with h | h
          ·exact h
          ·rw [List.getElem?_eq_none (by simpa using h)] at h3;cases h3
         rw [List.getElem?_range hi] at h3
         cases h3
         exact ⟨hi,h2⟩
        refine ⟨[.l ((List.range len).map tf)],⟨?_,trivial⟩,_,_,rfl,⟨_,rfl,by simp;omega,?_⟩,rfl⟩
        ·have:=Den.l (ω:=ω) (w:=w) (xs:=(List.range len).map tf) (b:=b) (off:=off) (wd:=P.cellsOf e) (cap:=cap) (cv:=fun i j=>((vf i)[j]?).getD default)
          (by
           intro r hr
           rw [List.mem_map] at hr
           obtain ⟨i,hi,rfl⟩:=hr
           have hi:=List.mem_range.1 hi
           rw [(htf i hi).2.1.length,hwd i hi])
          (by simpa using hlc) (hω b) hlt
          (by
           intro i j t h
           obtain ⟨hi,hj⟩:=hat2 i j t h
           have hj':j < (vf i).length:=by rw [← (htf i hi).2.1.length];exact (List.getElem?_eq_some_iff.1 hj).1
           have:=hcell i j hi (by rw [← hwd i hi];exact hj')
           rw [hadd] at this
           rw [this,List.getElem?_eq_getElem hj']
           rfl)
          (by
           intro i j t h
           obtain ⟨hi,hj⟩:=hat2 i j t h
           have hj':j < (vf i).length:=by rw [← (htf i hi).2.1.length];exact (List.getElem?_eq_some_iff.1 hj).1
           refine (htf i hi).2.1.get j t _ hj ?_
           rw [List.getElem?_eq_getElem hj']
           rfl)
         simpa using this
        ·intro r hr
         rw [List.mem_map] at hr
         obtain ⟨i,hi,rfl⟩:=hr
         exact (htf i (List.mem_range.1 hi)).2.2
    | struct fl =>
     simp only [Option.bind_eq_some_iff] at ht
     obtain ⟨ys,hy,ht⟩:=ht
     cases hz:Nat.beq ys.length (P.cellsOf t) with
     | false=>simp [hz] at ht
     | true =>
      simp only [hz,cond_true,Option.some.injEq] at ht
      subst ht
      obtain ⟨xs,n',e1,_,hl,hxl,hat⟩:=DataW.trod_struct hu h
      cases e1
      obtain ⟨ts,h1,h2⟩:=au7_ (ω:=ω) (w:=w) (cs:=cs) hy fun f hf a ha=>by
       obtain ⟨i,hi,hfi⟩:=List.getElem_of_mem hf
       have h1:=hat i f (by rw [← hfi,← Array.getElem?_toList];exact List.getElem?_eq_getElem hi)
       have hi':i < xs.length:=by rw [hxl];simpa using hi
       rw [List.getElem?_eq_getElem hi'] at h1
       exact ih m h1 ha hω
      refine ⟨ts,?_,h2⟩
      rw [List.drop_zero,Nat.eq_of_beq_eq_true hz,← hl,List.take_length] at h1
      exact h1
    | _=>cases ht
def ani_ (P:Program) (t:TypeId):Bool :=
 match P.underlying t with
 | some (.struct _)=>true
 | _=>false
def psB (P:Program):List TypeId→List PS→Option (List Ty)
 | [],[]=>some []
 | t :: ts,.v ag n :: ps=>(tyOf P 16 t).bind fun fs=>bif Nat.beq fs.length n && (ani_ P t == ag) then (psB P ts ps).bind fun gs=>some (fs++gs) else none
 | _,_=>none
theorem aCj_ {bl:Nat→Option Nat} (hω:∀ b,ω b=none) {r:Reach} {b0:Nat}:∀ {ts:List TypeId} {vs:List Value} {ds:List (DataW H)} {pl:List MemPlace} {ps:List PS} {ys:List Ty} {i:Nat},DataW.TrodAll enc P w 0 spare held ts vs ds pl →
  (∀ (j:Nat) t v,ts[j]?=some t→vs[j]?=some v→Value.okWide P w r b0 t v)→psB P ts ps=some ys→∃ us,als_ ω w bl i ps vs us∧WTs ys us
 | [],[],[],pl,ps,ys,i,h,hv,hp=>by
  cases ps with
  | nil=>simp only [psB,Option.some.injEq] at hp;subst hp;exact ⟨[],⟨rfl,rfl⟩,rfl⟩
  | cons _ _=>simp [psB] at hp
 | t :: ts,v :: vs,d :: ds,pl,ps,ys,i,⟨p,q,h1,h2,e⟩,hv,hp=>by
  cases ps with
  | nil=>simp [psB] at hp
  | cons p0 ps =>
   cases p0 with
   | x n=>simp [psB] at hp
   | v ag n =>
    simp only [psB,Option.bind_eq_some_iff] at hp
    obtain ⟨fs,hfs,hp⟩:=hp
    cases hc:(Nat.beq fs.length n && (ani_ P t == ag)) with
    | false=>simp [hc] at hp
    | true =>
     simp only [hc,cond_true,Option.bind_eq_some_iff,Option.some.injEq] at hp
     obtain ⟨gs,hgs,rfl⟩:=hp
     simp only [Bool.and_eq_true,beq_iff_eq] at hc
     obtain ⟨us,g1,g2⟩:=aCj_ (bl:=bl) (i:=i+1) hω h2 (fun j t v hj hj'=>hv (j+1) t v hj hj') hgs
     obtain ⟨f,h1⟩:=h1
     obtain ⟨t1,g3,g4⟩:=aM0_ f 16 h1 hfs hω
     have hok:=hv 0 t v rfl rfl
     refine ⟨t1++us,⟨v,vs,v.cells.toList,t1,us,rfl,rfl,by rw [g4.length];exact Nat.eq_of_beq_eq_true hc.1,?_,g3,g1⟩,g4.append g2⟩
     have hs:=hc.2
     unfold ani_ at hs
     unfold tyOf at hfs
     cases hu:P.underlying t with
     | none=>rw [hu] at hfs;cases hfs
     | some u =>
      rw [hu] at hfs hs
      cases u with
      | int k=>obtain ⟨a,rfl⟩:=okWide_int hu hok;subst hs;exact ⟨rfl,fun x h=>by cases h⟩
      | bool=>obtain ⟨a,rfl⟩:=okWide_bool hu hok;subst hs;exact ⟨rfl,fun x h=>by cases h⟩
      | string=>obtain ⟨a,rfl⟩:=okWide_string hu hok;subst hs;exact ⟨rfl,fun x h=>by cases h⟩
      | slice e=>obtain ⟨a,l,c,rfl⟩:=okWide_slice hu hok;subst hs;exact ⟨rfl,fun x h=>by cases h⟩
      | struct fl =>
       obtain ⟨cs,rfl,_⟩:=okWide_struct hu hok
       subst hs
       simp [Value.cells]
      | _=>cases hfs
 | [],_ :: _,_,_,_,_,_,h,_,_=>by simp [DataW.TrodAll] at h
 | [],[],_ :: _,_,_,_,_,h,_,_=>by simp [DataW.TrodAll] at h
 | _ :: _,[],_,_,_,_,_,h,_,_=>by simp [DataW.TrodAll] at h
 | _ :: _,_ :: _,[],_,_,_,_,h,_,_=>by simp [DataW.TrodAll] at h
theorem ajd_ (hl:laidOutB P=true) {W W':World} {sp':Nat→Bool}:∀ {ts:List TypeId} {vs:List Value} {ds:List (DataW H)} {ps:List MemPlace},(∀ t∈ts,P.readableRec t=true∧t < P.types.size) →
  DataW.TrodAll enc P W base (fun _=>true) true ts vs ds ps→(∀ p∈ps,W.sameAt W' p)→(∀ p∈ps,sp' p.block=true)→DataW.TrodAll enc P W' base sp' true ts vs ds ps
 | [],[],[],_,_,h,_,_=>h
 | t :: ts,_ :: _,_ :: _,_,hT,⟨p,q,h1,h2,e⟩,hs,hb=>⟨p,q,WideElems.Trod_stays hl (hT t (.head _)).1 (hT t (.head _)).2 h1 (fun x hx=>hs x (by rw [e];exact List.mem_append_left _ hx)) (fun x hx=>hb x (by rw [e];exact List.mem_append_left _ hx)),
   ajd_ hl (fun t ht=>hT t (.tail _ ht)) h2 (fun x hx=>hs x (by rw [e];exact List.mem_append_right _ hx)) (fun x hx=>hb x (by rw [e];exact List.mem_append_right _ hx)),e⟩
 | [],_ :: _,_,_,_,h,_,_=>by simp [DataW.TrodAll] at h
 | [],[],_ :: _,_,_,h,_,_=>by simp [DataW.TrodAll] at h
 | _ :: _,[],_,_,_,h,_,_=>by simp [DataW.TrodAll] at h
 | _ :: _,_ :: _,[],_,_,h,_,_=>by simp [DataW.TrodAll] at h
end
theorem aDt_ {H:Type} {enc:TypeId × Value→H} {C:Checked} {os:Os} {f:FuncId} {fn:Func} {s:ChangeSpec} {conds:List PathCond} {apart fresh handsOn again:Bool} {sg:Sig} {F:Sem1} {ys:List Ty} {rt:TypeId}
  (own:ownKnob C.prog.godebug=none) (started:os.Started) (noInit:C.prog.inits.idxOf? f=none) (hfn:C.prog.funcs[f]?=some fn)
  (witness:∃ (w:World) (tape:Tape) (i:Input),w.os=os∧(w.forCall tape i).Shaped C.prog∧i.vars=[]∧Input.okWide C.prog (w.forCall tape i) .any w.heap.size f i ∧
   s.pre6 enc C.prog fn conds apart (w.forCall tape i).memory i.args∧({}:Assume).holds C.prog (lone (Frame.enter C.prog f i.args .normal) [] (w.forCall tape i)))
  (hvars:s.vars=[]) (hspec:∀ ds:List (DataW H),ds.length=fn.params.size→s.fn H ds={ results:=[.lit (.bool true)],args:=ds })
  (hl:laidOutB C.prog=true) (hread:(fn.params.toList.all fun t=>C.prog.readableRec t && Nat.blt t C.prog.types.size)=true)
  (hrt:fn.resultTypes=#[rt]) (hbool:C.prog.underlying rt=some .bool) (hrs:sg.rs=[(false,[.s])])
  (hok:Fok C.prog sg f F) (hps:psB C.prog fn.params.toList sg.ps=some ys) (hF:∀ ts,WTs ys ts→F ts=some [.c (.bool true)]) :
  ReturnsInHanded {} C os f .any (s.pre6 enc C.prog fn conds apart) (s.post enc C.prog fn apart fresh handsOn again):=by
 refine returnsInHanded_of_change own started noInit hfn witness ?_
 intro W b0 args ds gs before hval hW _ _
 have hW':=hW
 obtain ⟨p,q,hA,hV,rfl,_,_⟩:=hW
 rw [hvars] at hV
 obtain ⟨rfl,rfl⟩:gs=[]∧q=[]:=by
  cases gs with
  | nil=>exact ⟨rfl,hV⟩
  | cons _ _=>exact hV.elim
 have hlen:ds.length=fn.params.size:=by
  have:∀ {ts:List TypeId} {vs:List Value} {ds:List (DataW H)} {ps:List MemPlace},DataW.TrodAll enc C.prog W 0 (fun _=>true) true ts vs ds ps→ds.length=ts.length:=by
   intro ts
   induction ts with
   | nil=>intro vs ds ps h;cases vs <;> cases ds <;> simp_all [DataW.TrodAll]
   | cons t ts ih =>
    intro vs ds ps h
    cases vs with
    | nil=>simp [DataW.TrodAll] at h
    | cons v vs =>
     cases ds with
     | nil=>simp [DataW.TrodAll] at h
     | cons d ds=>obtain ⟨_,_,_,h2,_⟩:=h;simp [ih h2]
  rw [this hA];simp
 have hT:∀ t∈fn.params.toList,C.prog.readableRec t=true∧t < C.prog.types.size:=by
  intro t ht
  have:=List.all_eq_true.1 hread t ht
  simp only [Bool.and_eq_true] at this
  exact ⟨this.1,Nat.blt_eq ▸ this.2⟩
 obtain ⟨us,hin,hwt⟩:=aCj_ (ω:=fun _=>none) (bl:=fun _=>none) (i:=0) (fun _=>rfl) hA (fun j t v h1 h2=>hval j t v (by simpa using h1) (by simpa using h2)) hps
 have hc:=hok.2 W (fun _=>none) (fun _=>none) args.toList us _ (hF us hwt) ⟨fun b l h=>by (cases h),fun i b h=>by (cases h)⟩ hin
 rw [Array.toArray_toList] at hc
 refine hc.mono fun e W' h=>?_
 obtain ⟨v,G,is,o1,o2,rfl,hp⟩:=h
 refine ⟨v,rfl,?_⟩
 have hold:∀ x∈p++[],MemPlace.block x < W.heap.size:=hW'.lt
 have hblk:∀ b,b < W.heap.size→W'.heap[b]?=W.heap[b]?:=fun b hb=>(hp.free b hb rfl).2
 have hsame:∀ x∈p,W.sameAt W' x:=by
  intro x hx
  have hb:=hold x (by simpa using hx)
  cases x with
  | cell b o=>show W'.cell? _=W.cell? _;unfold World.cell?;rw [hblk b hb]
  | map b=>exact hblk b hb
 have hv:v=.bool true:=by
  have h1:=hp.ret
  rw [hrs] at h1
  obtain ⟨t1,t2,i1,i2,e1,e2,h1,h2⟩:=h1
  obtain ⟨h1,_⟩:=h1
  have h3:=hp.outs
  rw [e1] at h3
  cases t1 with
  | nil=>simp [OutCs] at h1
  | cons t t1 =>
   cases i1 with
   | nil=>simp [OutCs] at h1
   | cons i i1 =>
    simp only [List.cons_append,List.cons.injEq] at h3
    rw [← h3.1] at h1
    obtain ⟨_,hd,_⟩:=h1
    cases hd
    rfl
 subst hv
 have hargs:=fun sp hsp=>ajd_ (enc:=enc) (base:=0) (sp':=sp) hl hT hA hsame hsp
 have hsp:=hspec ds hlen
 have hok1:∀ (j:Nat) (t:TypeId) (r:Value),fn.resultTypes[j]?=some t→((Value.bool true).resultList fn.resultTypes.size)[j]?=some r→Value.okWide C.prog W' .any 0 t r:=by
  intro j t r hj hr
  rw [hrt] at hj hr
  have hj0:j=0:=by
   rcases Nat.eq_zero_or_pos j with h | h
   ·exact h
   ·have:(#[rt]:Array TypeId)[j]?=none:=by simp;omega
    rw [this] at hj;cases hj
  subst hj0
  cases hj;cases hr
  simp [Value.okWide,hbool,Cell.okWide,Cell.ok]
 have hres:∀ (b:Nat) (sp:Nat→Bool) (hd:Bool),DataW.TrodAll enc C.prog W' b sp hd fn.resultTypes.toList ((Value.bool true).resultList fn.resultTypes.size) (s.fn H (ds++[])).results []:=by
  intro b sp hd
  rw [List.append_nil,hsp,hrt]
  exact ⟨[],[],⟨1,by simp [DataW.trod,hbool,Value.cells]⟩,rfl,rfl⟩
 have harg:∀ sp:Nat→Bool,(∀ x∈p,sp x.block=true)→DataW.TrodAll enc C.prog W' 0 sp true fn.params.toList args.toList (s.fn H (ds++[])).args p:=by
  intro sp hs
  rw [List.append_nil,hsp]
  exact hargs sp hs
 have hvar:∀ sp:Nat→Bool,DataW.TrodVars enc C.prog W' sp s.vars (s.fn H (ds++[])).vars []:=by
  intro sp
  rw [List.append_nil,hsp,hvars]
  rfl
 have hW2:=hW'
 obtain ⟨_,_,_,_,_,hz,hn⟩:=hW2
 refine ⟨ds,[],p++[],[],p,[],hW',hres _ _ _,harg _ (fun x hx=>decide_eq_true (hold x (by simpa using hx))),hvar _,⟨hp.so.os,hp.so.output,fun i hi=>?_⟩,fun _=>⟨hok1,_,[],p++[],⟨[]++p,[],trodAll_append (harg _ fun _ _=>rfl) (hres _ _ _),by rw [hvars];rfl,rfl,?_,hn⟩,?_⟩⟩
 ·rw [hblk i hi]
  cases W.heap[i]? with
  | none=>trivial
  | some o=>cases o <;> simp
 ·intro b off hm
  have h1:=hz b off hm
  have hb:=hold _ hm
  unfold World.frozen? at h1 ⊢
  rw [show W'.heap[(⟨b,off,none⟩:Addr).block]?=W.heap[(⟨b,off,none⟩:Addr).block]? from hblk b hb]
  exact h1
 ·intro x hx _
  exact hx
def pv (p:Prim) (l:List T) (k:T→Option (List T)):Option (List T):=(Prim.ev p l).bind k
theorem pv_s (p:Prim) (l:List T) (k:T→Option (List T)):pv p l k=(Prim.ev p l).bind k:=rfl
def Yz (x:T) (k:T→Option (List T)):Option (List T):=(Prim.ev (.scl) [x]).bind k
theorem Yz_s (x:T) (k:T→Option (List T)):Yz x k=(Prim.ev (.scl) [x]).bind k:=rfl
def Ya (x y:T) (k:T→Option (List T)):Option (List T):=(Prim.ev (.bin .add) [x,y]).bind k
theorem Ya_s (x y:T) (k:T→Option (List T)):Ya x y k=(Prim.ev (.bin .add) [x,y]).bind k:=rfl
def Yb (x y:T) (k:T→Option (List T)):Option (List T):=(Prim.ev (.bnd) [x,y]).bind k
theorem Yb_s (x y:T) (k:T→Option (List T)):Yb x y k=(Prim.ev (.bnd) [x,y]).bind k:=rfl
def Yl (x y:T) (k:T→Option (List T)):Option (List T):=(Prim.ev (.bin .lss) [x,y]).bind k
theorem Yl_s (x y:T) (k:T→Option (List T)):Yl x y k=(Prim.ev (.bin .lss) [x,y]).bind k:=rfl
def Ye (x y:T) (k:T→Option (List T)):Option (List T):=(Prim.ev (.bin .eql) [x,y]).bind k
theorem Ye_s (x y:T) (k:T→Option (List T)):Ye x y k=(Prim.ev (.bin .eql) [x,y]).bind k:=rfl
def Yn (x:T) (k:T→Option (List T)):Option (List T):=(Prim.ev (.len) [x]).bind k
theorem Yn_s (x:T) (k:T→Option (List T)):Yn x k=(Prim.ev (.len) [x]).bind k:=rfl
def Yt (x:T) (k:T→Option (List T)):Option (List T):=(Prim.ev (.un .not) [x]).bind k
theorem Yt_s (x:T) (k:T→Option (List T)):Yt x k=(Prim.ev (.un .not) [x]).bind k:=rfl
def Yp (x y:T) (k:T→Option (List T)):Option (List T):=(Prim.ev (.app true 1) [x,y]).bind k
theorem Yp_s (x y:T) (k:T→Option (List T)):Yp x y k=(Prim.ev (.app true 1) [x,y]).bind k:=rfl
def Yo (x y:T) (k:T→Option (List T)):Option (List T):=(Prim.ev (.app false 3) [x,y]).bind k
theorem Yo_s (x y:T) (k:T→Option (List T)):Yo x y k=(Prim.ev (.app false 3) [x,y]).bind k:=rfl
def Yu (x y:T) (k:T→Option (List T)):Option (List T):=(Prim.ev (.bin .neq) [x,y]).bind k
theorem Yu_s (x y:T) (k:T→Option (List T)):Yu x y k=(Prim.ev (.bin .neq) [x,y]).bind k:=rfl
def Yg (x y:T) (k:T→Option (List T)):Option (List T):=(Prim.ev (.bin .gtr) [x,y]).bind k
theorem Yg_s (x y:T) (k:T→Option (List T)):Yg x y k=(Prim.ev (.bin .gtr) [x,y]).bind k:=rfl
def Ym (x y:T) (k:T→Option (List T)):Option (List T):=(Prim.ev (.bin .leq) [x,y]).bind k
theorem Ym_s (x y:T) (k:T→Option (List T)):Ym x y k=(Prim.ev (.bin .leq) [x,y]).bind k:=rfl
def Yh (x y:T) (k:T→Option (List T)):Option (List T):=(Prim.ev (.bin .geq) [x,y]).bind k
theorem Yh_s (x y:T) (k:T→Option (List T)):Yh x y k=(Prim.ev (.bin .geq) [x,y]).bind k:=rfl
def Ys (x y:T) (k:T→Option (List T)):Option (List T):=(Prim.ev (.bin .sub) [x,y]).bind k
theorem Ys_s (x y:T) (k:T→Option (List T)):Ys x y k=(Prim.ev (.bin .sub) [x,y]).bind k:=rfl
def Yv (x y:T) (k:T→Option (List T)):Option (List T):=(Prim.ev (.sub 1 true false) [x,y]).bind k
theorem Yv_s (x y:T) (k:T→Option (List T)):Yv x y k=(Prim.ev (.sub 1 true false) [x,y]).bind k:=rfl
def Yw (x y:T) (k:T→Option (List T)):Option (List T):=(Prim.ev (.sub 1 false true) [x,y]).bind k
theorem Yw_s (x y:T) (k:T→Option (List T)):Yw x y k=(Prim.ev (.sub 1 false true) [x,y]).bind k:=rfl
def Yx (x:T) (k:T→Option (List T)):Option (List T):=(Prim.ev (.lit 1 [true]) [x]).bind k
theorem Yx_s (x:T) (k:T→Option (List T)):Yx x k=(Prim.ev (.lit 1 [true]) [x]).bind k:=rfl
def Yy (x y:T) (k:T→Option (List T)):Option (List T):=(Prim.ev (.app false 8) [x,y]).bind k
theorem Yy_s (x y:T) (k:T→Option (List T)):Yy x y k=(Prim.ev (.app false 8) [x,y]).bind k:=rfl
def Yc (w j:Nat) (x y:T) (k:T→Option (List T)):Option (List T):=(Prim.ev (.cell w j) [x,y]).bind k
theorem Yc_s (w j:Nat) (x y:T) (k:T→Option (List T)):Yc w j x y k=(Prim.ev (.cell w j) [x,y]).bind k:=rfl
def Yq (x y:T) (k:T→Option (List T)):Option (List T):=(Prim.ev .bnd [x,y]).bind fun _=>(Prim.ev (.scell 1 0) [x,y]).bind k
theorem Yq_s (x y:T) (k:T→Option (List T)):Yq x y k=(Prim.ev .bnd [x,y]).bind fun _=>(Prim.ev (.scell 1 0) [x,y]).bind k:=rfl
def Y1 (x y:T) (k:T→Option (List T)):Option (List T):=(Prim.ev .bnd [x,y]).bind fun _=>(Prim.ev (.cell 1 0) [x,y]).bind fun a0=>k a0
theorem Y1_s (x y:T) (k:T→Option (List T)):Y1 x y k=(Prim.ev .bnd [x,y]).bind fun _=>(Prim.ev (.cell 1 0) [x,y]).bind fun a0=>k a0:=rfl
def Y2 (x y:T) (k:T→T→Option (List T)):Option (List T):=(Prim.ev .bnd [x,y]).bind fun _=>(Prim.ev (.cell 2 0) [x,y]).bind fun a0=>(Prim.ev (.cell 2 1) [x,y]).bind fun a1=>k a0 a1
theorem Y2_s (x y:T) (k:T→T→Option (List T)):Y2 x y k=(Prim.ev .bnd [x,y]).bind fun _=>(Prim.ev (.cell 2 0) [x,y]).bind fun a0=>(Prim.ev (.cell 2 1) [x,y]).bind fun a1=>k a0 a1:=rfl
def Y3 (x y:T) (k:T→T→T→Option (List T)):Option (List T):=(Prim.ev .bnd [x,y]).bind fun _=>(Prim.ev (.cell 3 0) [x,y]).bind fun a0=>(Prim.ev (.cell 3 1) [x,y]).bind fun a1=>(Prim.ev (.cell 3 2) [x,y]).bind fun a2=>k a0 a1 a2
theorem Y3_s (x y:T) (k:T→T→T→Option (List T)):Y3 x y k=(Prim.ev .bnd [x,y]).bind fun _=>(Prim.ev (.cell 3 0) [x,y]).bind fun a0=>(Prim.ev (.cell 3 1) [x,y]).bind fun a1=>(Prim.ev (.cell 3 2) [x,y]).bind fun a2=>k a0 a1 a2:=rfl
def Y4 (x y:T) (k:T→T→T→T→Option (List T)):Option (List T):=(Prim.ev .bnd [x,y]).bind fun _=>(Prim.ev (.cell 4 0) [x,y]).bind fun a0=>(Prim.ev (.cell 4 1) [x,y]).bind fun a1=>(Prim.ev (.cell 4 2) [x,y]).bind fun a2=>(Prim.ev (.cell 4 3) [x,y]).bind fun a3=>k a0 a1 a2 a3
theorem Y4_s (x y:T) (k:T→T→T→T→Option (List T)):Y4 x y k=(Prim.ev .bnd [x,y]).bind fun _=>(Prim.ev (.cell 4 0) [x,y]).bind fun a0=>(Prim.ev (.cell 4 1) [x,y]).bind fun a1=>(Prim.ev (.cell 4 2) [x,y]).bind fun a2=>(Prim.ev (.cell 4 3) [x,y]).bind fun a3=>k a0 a1 a2 a3:=rfl
def Y6 (x y:T) (k:T→T→T→T→T→T→Option (List T)):Option (List T):=(Prim.ev .bnd [x,y]).bind fun _=>(Prim.ev (.cell 6 0) [x,y]).bind fun a0=>(Prim.ev (.cell 6 1) [x,y]).bind fun a1=>(Prim.ev (.cell 6 2) [x,y]).bind fun a2=>(Prim.ev (.cell 6 3) [x,y]).bind fun a3=>(Prim.ev (.cell 6 4) [x,y]).bind fun a4=>(Prim.ev (.cell 6 5) [x,y]).bind fun a5=>k a0 a1 a2 a3 a4 a5
theorem Y6_s (x y:T) (k:T→T→T→T→T→T→Option (List T)):Y6 x y k=(Prim.ev .bnd [x,y]).bind fun _=>(Prim.ev (.cell 6 0) [x,y]).bind fun a0=>(Prim.ev (.cell 6 1) [x,y]).bind fun a1=>(Prim.ev (.cell 6 2) [x,y]).bind fun a2=>(Prim.ev (.cell 6 3) [x,y]).bind fun a3=>(Prim.ev (.cell 6 4) [x,y]).bind fun a4=>(Prim.ev (.cell 6 5) [x,y]).bind fun a5=>k a0 a1 a2 a3 a4 a5:=rfl
def Y8 (x y:T) (k:T→T→T→T→T→T→T→T→Option (List T)):Option (List T):=(Prim.ev .bnd [x,y]).bind fun _=>(Prim.ev (.cell 8 0) [x,y]).bind fun a0=>(Prim.ev (.cell 8 1) [x,y]).bind fun a1=>(Prim.ev (.cell 8 2) [x,y]).bind fun a2=>(Prim.ev (.cell 8 3) [x,y]).bind fun a3=>(Prim.ev (.cell 8 4) [x,y]).bind fun a4=>(Prim.ev (.cell 8 5) [x,y]).bind fun a5=>(Prim.ev (.cell 8 6) [x,y]).bind fun a6=>(Prim.ev (.cell 8 7) [x,y]).bind fun a7=>k a0 a1 a2 a3 a4 a5 a6 a7
theorem Y8_s (x y:T) (k:T→T→T→T→T→T→T→T→Option (List T)):Y8 x y k=(Prim.ev .bnd [x,y]).bind fun _=>(Prim.ev (.cell 8 0) [x,y]).bind fun a0=>(Prim.ev (.cell 8 1) [x,y]).bind fun a1=>(Prim.ev (.cell 8 2) [x,y]).bind fun a2=>(Prim.ev (.cell 8 3) [x,y]).bind fun a3=>(Prim.ev (.cell 8 4) [x,y]).bind fun a4=>(Prim.ev (.cell 8 5) [x,y]).bind fun a5=>(Prim.ev (.cell 8 6) [x,y]).bind fun a6=>(Prim.ev (.cell 8 7) [x,y]).bind fun a7=>k a0 a1 a2 a3 a4 a5 a6 a7:=rfl
def jn (k:Sem1) (b:Sem1→Option (List T)):Option (List T):=b k
def cl1 (o:Option (List T)) (k:T→Option (List T)):Option (List T):=o.bind fun ts=>k (ts.getD 0 T.dft)
theorem aOl_ (x0:T) (k:T→Option (List T)):cl1 (some [x0]) k=k x0:=rfl
def ar1 (k:T→Option (List T)):Sem1:=fun ts=>k (ts.getD 0 T.dft)
theorem aOa_ (x0:T) (k:T→Option (List T)):ar1 k [x0]=k x0:=rfl
def ar2 (k:T→T→Option (List T)):Sem1:=fun ts=>k (ts.getD 0 T.dft) (ts.getD 1 T.dft)
theorem aOh_ (x0 x1:T) (k:T→T→Option (List T)):ar2 k [x0,x1]=k x0 x1:=rfl
def cl3 (o:Option (List T)) (k:T→T→T→Option (List T)):Option (List T):=o.bind fun ts=>k (ts.getD 0 T.dft) (ts.getD 1 T.dft) (ts.getD 2 T.dft)
theorem aR0_ (x0 x1 x2:T) (k:T→T→T→Option (List T)):cl3 (some [x0,x1,x2]) k=k x0 x1 x2:=rfl
def ar3 (k:T→T→T→Option (List T)):Sem1:=fun ts=>k (ts.getD 0 T.dft) (ts.getD 1 T.dft) (ts.getD 2 T.dft)
theorem aN7_ (x0 x1 x2:T) (k:T→T→T→Option (List T)):ar3 k [x0,x1,x2]=k x0 x1 x2:=rfl
def cl4 (o:Option (List T)) (k:T→T→T→T→Option (List T)):Option (List T):=o.bind fun ts=>k (ts.getD 0 T.dft) (ts.getD 1 T.dft) (ts.getD 2 T.dft) (ts.getD 3 T.dft)
theorem aRu_ (x0 x1 x2 x3:T) (k:T→T→T→T→Option (List T)):cl4 (some [x0,x1,x2,x3]) k=k x0 x1 x2 x3:=rfl
def ar4 (k:T→T→T→T→Option (List T)):Sem1:=fun ts=>k (ts.getD 0 T.dft) (ts.getD 1 T.dft) (ts.getD 2 T.dft) (ts.getD 3 T.dft)
theorem aOg_ (x0 x1 x2 x3:T) (k:T→T→T→T→Option (List T)):ar4 k [x0,x1,x2,x3]=k x0 x1 x2 x3:=rfl
def ar5 (k:T→T→T→T→T→Option (List T)):Sem1:=fun ts=>k (ts.getD 0 T.dft) (ts.getD 1 T.dft) (ts.getD 2 T.dft) (ts.getD 3 T.dft) (ts.getD 4 T.dft)
theorem aOi_ (x0 x1 x2 x3 x4:T) (k:T→T→T→T→T→Option (List T)):ar5 k [x0,x1,x2,x3,x4]=k x0 x1 x2 x3 x4:=rfl
def ar6 (k:T→T→T→T→T→T→Option (List T)):Sem1:=fun ts=>k (ts.getD 0 T.dft) (ts.getD 1 T.dft) (ts.getD 2 T.dft) (ts.getD 3 T.dft) (ts.getD 4 T.dft) (ts.getD 5 T.dft)
theorem aN9_ (x0 x1 x2 x3 x4 x5:T) (k:T→T→T→T→T→T→Option (List T)):ar6 k [x0,x1,x2,x3,x4,x5]=k x0 x1 x2 x3 x4 x5:=rfl
def cl7 (o:Option (List T)) (k:T→T→T→T→T→T→T→Option (List T)):Option (List T):=o.bind fun ts=>k (ts.getD 0 T.dft) (ts.getD 1 T.dft) (ts.getD 2 T.dft) (ts.getD 3 T.dft) (ts.getD 4 T.dft) (ts.getD 5 T.dft) (ts.getD 6 T.dft)
theorem aR9_ (x0 x1 x2 x3 x4 x5 x6:T) (k:T→T→T→T→T→T→T→Option (List T)):cl7 (some [x0,x1,x2,x3,x4,x5,x6]) k=k x0 x1 x2 x3 x4 x5 x6:=rfl
def ar7 (k:T→T→T→T→T→T→T→Option (List T)):Sem1:=fun ts=>k (ts.getD 0 T.dft) (ts.getD 1 T.dft) (ts.getD 2 T.dft) (ts.getD 3 T.dft) (ts.getD 4 T.dft) (ts.getD 5 T.dft) (ts.getD 6 T.dft)
theorem aOd_ (x0 x1 x2 x3 x4 x5 x6:T) (k:T→T→T→T→T→T→T→Option (List T)):ar7 k [x0,x1,x2,x3,x4,x5,x6]=k x0 x1 x2 x3 x4 x5 x6:=rfl
def cl8 (o:Option (List T)) (k:T→T→T→T→T→T→T→T→Option (List T)):Option (List T):=o.bind fun ts=>k (ts.getD 0 T.dft) (ts.getD 1 T.dft) (ts.getD 2 T.dft) (ts.getD 3 T.dft) (ts.getD 4 T.dft) (ts.getD 5 T.dft) (ts.getD 6 T.dft) (ts.getD 7 T.dft)
theorem aR1_ (x0 x1 x2 x3 x4 x5 x6 x7:T) (k:T→T→T→T→T→T→T→T→Option (List T)):cl8 (some [x0,x1,x2,x3,x4,x5,x6,x7]) k=k x0 x1 x2 x3 x4 x5 x6 x7:=rfl
def cl9 (o:Option (List T)) (k:T→T→T→T→T→T→T→T→T→Option (List T)):Option (List T):=o.bind fun ts=>k (ts.getD 0 T.dft) (ts.getD 1 T.dft) (ts.getD 2 T.dft) (ts.getD 3 T.dft) (ts.getD 4 T.dft) (ts.getD 5 T.dft) (ts.getD 6 T.dft) (ts.getD 7 T.dft) (ts.getD 8 T.dft)
theorem aR2_ (x0 x1 x2 x3 x4 x5 x6 x7 x8:T) (k:T→T→T→T→T→T→T→T→T→Option (List T)):cl9 (some [x0,x1,x2,x3,x4,x5,x6,x7,x8]) k=k x0 x1 x2 x3 x4 x5 x6 x7 x8:=rfl
def ar10 (k:T→T→T→T→T→T→T→T→T→T→Option (List T)):Sem1:=fun ts=>k (ts.getD 0 T.dft) (ts.getD 1 T.dft) (ts.getD 2 T.dft) (ts.getD 3 T.dft) (ts.getD 4 T.dft) (ts.getD 5 T.dft) (ts.getD 6 T.dft) (ts.getD 7 T.dft) (ts.getD 8 T.dft) (ts.getD 9 T.dft)
theorem aJw_ (x0 x1 x2 x3 x4 x5 x6 x7 x8 x9:T) (k:T→T→T→T→T→T→T→T→T→T→Option (List T)):ar10 k [x0,x1,x2,x3,x4,x5,x6,x7,x8,x9]=k x0 x1 x2 x3 x4 x5 x6 x7 x8 x9:=rfl
theorem jn_s (k:Sem1) (b:Sem1→Option (List T)):jn k b=b k:=rfl
def PL.arity (j:Nat):PL→Option Nat
 | .ret _=>none
 | .ins _ k=>k.arity j
 | .ite _ x y=>match x.arity j with | some n=>some n | none=>y.arity j
 | .loop _ b=>b.arity (j+1)
 | .join k b=>match k.arity j with | some n=>some n | none=>b.arity (j+1)
 | .go i xs=>bif Nat.beq i j then some xs.length else none
 | .dbg _ _=>none
def PL.den2 (S:Nat→Sem1) (R:Nat) (K:List Sem1) (ρ:List T):PL→Option (List T)
 | .ret xs=>some (xs.map (Lf.ev ρ))
 | .ins (.pr p xs) k=>(p.ev (xs.map (Lf.ev ρ))).bind fun t=>k.den2 S R K (ρ++[t])
 | .ins (.cl g xs m) k=>(S g (xs.map (Lf.ev ρ))).bind fun ts=>k.den2 S R K (ρ++z4_ ts 0 m)
 | .ite c x y=>ifT (ρ.getD c T.dft) (x.den2 S R K ρ) (y.den2 S R K ρ)
 | .loop xs body=>iter (fun self ts=>body.den2 S R (self :: K) (ρ++z4_ ts 0 xs.length)) R (xs.map (Lf.ev ρ))
 | .join k body=>jn (fun ts=>k.den2 S R K (ρ++z4_ ts 0 ((body.arity 0).getD 0))) fun f=>body.den2 S R (f :: K) ρ
 | .go j xs=>match K[j]? with
  | some f=>f (xs.map (Lf.ev ρ))
  | none=>none
 | .dbg _ _=>none
def PL.wf (ar:List Nat):PL→Bool
 | .ret _=>true
 | .ins _ k=>k.wf ar
 | .ite _ x y=>x.wf ar && y.wf ar
 | .loop xs b=>b.wf (xs.length :: ar)
 | .join k b=>k.wf ar && b.wf ((b.arity 0).getD 0 :: ar)
 | .go j xs=>match ar[j]? with | some m=>Nat.beq m xs.length | none=>false
 | .dbg _ _=>true
theorem asb_:∀ (ts us:List T),z4_ (us++ts) us.length ts.length=ts
 | [],us=>rfl
 | t :: ts,us=>by
  have h:=asb_ ts (us++[t])
  rw [List.append_assoc,List.length_append] at h
  simp only [List.length_cons,z4_]
  refine congr (congrArg _ ?_) h
  simp
theorem apz_ (ts:List T) {m:Nat} (h:ts.length=m):z4_ ts 0 m=ts:=by
 subst h;exact asb_ ts []
theorem ax3_ {F G:Sem1→Sem1} {m:Nat} (h:∀ s s',(∀ ts:List T,ts.length=m→s ts=s' ts)→∀ ts:List T,ts.length=m→F s ts=G s' ts):∀ R (ts:List T),ts.length=m→iter F R ts=iter G R ts
 | 0,_,_=>rfl
 | R+1,ts,ht=>by
  unfold iter
  exact h _ _ (ax3_ h R) ts ht
theorem jE_ (S:Nat→Sem1) (R:Nat):∀ (p:PL) (ar:List Nat) (K K':List Sem1) (ρ:List T),p.wf ar=true →
  (∀ (j m:Nat),ar[j]?=some m→∃ f f':Sem1,K[j]?=some f∧K'[j]?=some f'∧∀ ts:List T,ts.length=m→f ts=f' ts)→p.den S R K ρ=p.den2 S R K' ρ
 | .ret xs,ar,K,K',ρ,_,_=>by simp only [PL.den,PL.den2]
 | .ins (.pr p xs) k,ar,K,K',ρ,hw,hk=>by
  simp only [PL.den,PL.den2]
  exact congrArg _ (funext fun t=>jE_ S R k ar K K' _ hw hk)
 | .ins (.cl g xs m) k,ar,K,K',ρ,hw,hk=>by
  simp only [PL.den,PL.den2]
  exact congrArg _ (funext fun t=>jE_ S R k ar K K' _ hw hk)
 | .ite c x y,ar,K,K',ρ,hw,hk=>by
  simp only [PL.wf,Bool.and_eq_true] at hw
  rw [yZ_]
  simp only [PL.den2]
  rw [jE_ S R x ar K K' ρ hw.1 hk,jE_ S R y ar K K' ρ hw.2 hk]
 | .loop xs b,ar,K,K',ρ,hw,hk=>by
  simp only [PL.den,PL.den2]
  refine ax3_ (m:=xs.length) (fun s s' hs ts ht=>?_) R _ (by simp)
  rw [apz_ ts ht]
  refine jE_ S R b (xs.length :: ar) _ _ _ hw fun j m hj=>?_
  cases j with
  | zero=>cases hj;exact ⟨s,s',rfl,rfl,hs⟩
  | succ j=>exact hk j m hj
 | .join k b,ar,K,K',ρ,hw,hk=>by
  simp only [PL.wf,Bool.and_eq_true] at hw
  simp only [PL.den,PL.den2,jn]
  refine jE_ S R b ((b.arity 0).getD 0 :: ar) _ _ _ hw.2 fun j m hj=>?_
  cases j with
  | zero =>
   cases hj
   refine ⟨_,_,rfl,rfl,fun ts ht=>?_⟩
   show PL.den S R K (ρ++ts) k=PL.den2 S R K' (ρ++z4_ ts 0 _) k
   rw [apz_ ts ht]
   exact jE_ S R k ar K K' _ hw.1 hk
  | succ j=>exact hk j m hj
 | .go j xs,ar,K,K',ρ,hw,hk=>by
  simp only [PL.wf] at hw
  cases hm:ar[j]? with
  | none=>rw [hm] at hw;exact absurd hw (by simp)
  | some m =>
   rw [hm] at hw
   have hm':=Nat.eq_of_beq_eq_true hw
   obtain ⟨f,f',h1,h2,h3⟩:=hk j m hm
   simp only [PL.den,PL.den2,h1,h2]
   exact h3 _ (by simp [hm'])
 | .dbg _ _,ar,K,K',ρ,_,_=>by simp only [PL.den,PL.den2]
theorem zc_ {S:Nat→Sem1} {R:Nat} {p:PL} {ρ:List T} (h:p.wf []=true):p.den S R [] ρ=p.den2 S R [] ρ :=
 jE_ S R p [] [] [] ρ h fun j m hj=>by simp at hj
set_option linter.unusedSimpArgs false
abbrev ii (n:Int):T:=.c (.int .i64 n)
abbrev bb (b:Bool):T:=.c (.bool b)
def I64 (n:Int):Prop:=(Lit.int .i64 n).wf=true
theorem I64.lo {n:Int} (h:I64 n):-9223372036854775808≤n:=by
 simp [I64,Lit.wf,IntKind.min,IntKind.max,IntKind.signed,IntKind.bits] at h;omega
theorem I64.hi {n:Int} (h:I64 n):n < 9223372036854775808:=by
 simp [I64,Lit.wf,IntKind.min,IntKind.max,IntKind.signed,IntKind.bits] at h;omega
theorem I64.mk {n:Int} (h:-9223372036854775808≤n) (h':n < 9223372036854775808):I64 n:=by
 simp [I64,Lit.wf,IntKind.min,IntKind.max,IntKind.signed,IntKind.bits];omega
def gt {α:Type} [Inhabited α] (l:List α) (n:Int):α:=l.getD n.toNat default
theorem zl_ {α:Type} [Inhabited α] {enc:α→List T} {l:List α} {n:Int} (h:0≤n) (h':n < l.length):(l.map enc)[n.toNat]?=some (enc (gt l n)):=by
 have hn:n.toNat < l.length:=by omega
 rw [List.getElem?_map,List.getElem?_eq_getElem hn]
 simp [gt,List.getD,List.getElem?_eq_getElem hn]
theorem aRb_ {α:Type} [Inhabited α] {l:List α} {i:Nat} {a:α} (h:l[i]?=some a):gt l (i:Int)=a:=by
 simp [gt,List.getD,h]
theorem zm_ {α:Type} [Inhabited α] {l:List α} {i:Nat} (h:i < l.length):gt l (i:Int)=l[i]:=aRb_ (List.getElem?_eq_getElem h)
theorem z2_ {α:Type} [Inhabited α] {l:List α} {n:Int} (h:0≤n) (h':n < l.length):gt l n∈l:=by
 have hn:n.toNat < l.length:=by omega
 simp [gt,List.getD,List.getElem?_eq_getElem hn]
theorem aqe_ {xs:List (List T)} {n:Int} {r:List T} (h0:0≤n) (h:xs[n.toNat]?=some r):uy_ (.l xs) (ii n)=some r:=by
 simp [uy_,T.rows,T.int,h0,h]
theorem aCw_ {α:Type} [Inhabited α] {enc:α→List T} {l:List α} {n:Int} (h:0≤n) (h':n < l.length):Prim.ev .bnd [.l (l.map enc),ii n]=some (bb true):=by
 simp [Prim.ev,aqe_ h (zl_ (enc:=enc) h h')]
theorem zC_ {xs:List (List T)} {n:Int} {w j:Nat} {r:List T} {t:T} (h0:0≤n) (h:xs[n.toNat]?=some r) (hw:r.length=w) (hj:r[j]?=some t):Prim.ev (.cell w j) [.l xs,ii n]=some t:=by
 simp [Prim.ev,aqe_ h0 h,hw,hj]
theorem zM_ {xs:List (List T)} {n:Int} {w j:Nat} {r:List T} {t:T} (h0:0≤n) (h:xs[n.toNat]?=some r) (hw:r.length=w) (hj:r[j]?=some t) (hs:scal t=true):Prim.ev (.scell w j) [.l xs,ii n]=some t:=by
 simp [Prim.ev,aqe_ h0 h,hw,hj,hs]
theorem kV_ {xs ys:List (List T)} {n:Int} {w j:Nat} {r:List T} (h0:0≤n) (h:xs[n.toNat]?=some r) (hw:r.length=w) (hj:r[j]?=some (.l ys)):Prim.ev (.dig w j) [.l xs,ii n]=some (.l ys):=by
 simp [Prim.ev,aqe_ h0 h,hw,hj,T.rows]
theorem aC8_ {α:Type} {enc:α→List T} {l:List α}:Prim.ev .len [.l (l.map enc)]=some (ii l.length):=by
 rw [xz_,List.length_map]
theorem alh_ {α:Type} {enc:α→List T} {w:Nat} (hw:∀ x,(enc x).length=w) (l:List α):okW w (l.map enc)=true:=by
 cases l with
 | nil=>rfl
 | cons x l=>simp [okW,hw]
theorem x6_ {α:Type} {enc:α→List T} {w:Nat} {sc:Bool} (hw:∀ x,(enc x).length=w) (hs:sc=false∨∀ x,(enc x).all scal=true) {l m:List α} (h:l.length+m.length < wS_):Prim.ev (.app sc w) [.l (l.map enc),.l (m.map enc)]=some (.l ((l++m).map enc)):=by
 rw [List.map_append]
 refine aQm_ (by simpa using h) ?_ (alh_ hw l) (alh_ hw m)
 rcases hs with rfl | hs
 ·rfl
 ·have:(m.map enc).all (·.all scal)=true:=by simp only [List.all_map,List.all_eq_true];exact fun x _=>hs x
  rw [this];simp
theorem x5_ {α:Type} {enc:α→List T} {w:Nat} {sc:Bool} (hw:∀ x,(enc x).length=w) (hs:sc=false∨∀ x,(enc x).all scal=true) {m:List α} (h:m.length < wS_):Prim.ev (.app sc w) [.l [],.l (m.map enc)]=some (.l (m.map enc)) :=
 x6_ (l:=[]) hw hs (by simpa using h)
theorem vP_ {α:Type} {enc:α→List T} {w:Nat} (hw:∀ x,(enc x).length=w) {l:List α} {a:Int} (h:0≤a) (h':a≤l.length):Prim.ev (.sub w true false) [.l (l.map enc),ii a]=some (.l ((l.drop a.toNat).map enc)):=by
 simp only [Prim.ev,alh_ hw l,if_true,List.length_map,za_,h,h']
 rw [if_pos (by omega)]
 have:((l.map enc).take (l.length:Int).toNat).drop a.toNat=(l.drop a.toNat).map enc:=by
  rw [List.map_drop,Int.toNat_natCast,List.take_of_length_le (by simp)]
 rw [this]
theorem vU_ {α:Type} {enc:α→List T} {w:Nat} (hw:∀ x,(enc x).length=w) {l:List α} {a:Int} (h:0≤a) (h':a≤l.length):Prim.ev (.sub w false true) [.l (l.map enc),ii a]=some (.l ((l.take a.toNat).map enc)):=by
 simp only [Prim.ev,alh_ hw l,if_true,List.length_map,za_,h,h',Int.le_refl,Int.toNat_zero,List.drop_zero,List.map_take]
theorem kS_ {α:Type} {enc:α→List T} {ok:α→Prop} {ty:List Ty} (h:∀ r,WTs ty r→∃ x,r=enc x∧ok x):∀ {xs:List (List T)},(∀ r∈xs,WTs ty r)→∃ l:List α,xs=l.map enc∧∀ x∈l,ok x
 | [],_=>⟨[],rfl,by simp⟩
 | r :: xs,hx=>by
  obtain ⟨x,rfl,h1⟩:=h r (hx _ (.head _))
  obtain ⟨l,rfl,h2⟩:=kS_ h (xs:=xs) fun r hr=>hx r (.tail _ hr)
  refine ⟨x :: l,rfl,?_⟩
  intro y hy
  rcases List.mem_cons.1 hy with rfl | hy
  ·exact h1
  ·exact h2 y hy
theorem vc_ {α:Type} {enc:α→List T} {ok:α→Prop} {ty:List Ty} (h:∀ x,ok x→WTs ty (enc x)) {l:List α} (hl:∀ x∈l,ok x):∀ r∈l.map enc,WTs ty r:=by
 intro r hr
 obtain ⟨x,hx,rfl⟩:=List.mem_map.1 hr
 exact h x (hl x hx)
def blks {α:Type} (f:α→Nat):List α→Nat
 | []=>0
 | x :: l=>1+(f x+blks f l)
theorem v1_ {α:Type} {enc:α→List T} {f:α→Nat} (h:∀ x,xm_ (enc x)=f x) (l:List α):zL_ (l.map enc)=blks f l:=by
 induction l with
 | nil=>simp [zL_,blks]
 | cons x l ih=>simp only [List.map_cons,zL_,blks,h,ih]
theorem kU_ {α:Type} {f:α→Nat} (l:List α):l.length≤blks f l:=by
 induction l with
 | nil=>exact Nat.le_refl _
 | cons x l ih=>simp only [List.length_cons,blks];omega
theorem aNe_ {α:Type} {f:α→Nat} {l:List α} {x:α} (h:x∈l):f x+1≤blks f l:=by
 induction l with
 | nil=>cases h
 | cons y l ih =>
  simp only [blks]
  rcases List.mem_cons.1 h with rfl | h
  ·omega
  ·have:=ih h;omega
def eInt (n:Int):List T:=[ii n]
def yInt:List Ty:=[.i .i64]
def aFk_ (n:Int):Prop:=I64 n
theorem dInt (r:List T) (h:WTs yInt r):∃ n,r=eInt n∧aFk_ n:=by
 obtain ⟨_,_,rfl,⟨n,rfl,hn⟩,rfl⟩:=xn_ h
 exact ⟨n,rfl,hn⟩
theorem wInt (n:Int) (h:aFk_ n):WTs yInt (eInt n):=xx_ ⟨_,_,rfl,⟨_,rfl,h⟩,rfl⟩
def acp_ (_:Int):Nat:=0
theorem bInt (n:Int):xm_ (eInt n)=acp_ n:=by simp only [eInt,ze_,zo_,z6_,acp_]
def yz_ (b:Bool):List T:=[bb b]
theorem aFb_ {l:List Int} {n:Int} (h:0≤n) (h':n < l.length):Prim.ev (.cell 1 0) [.l (l.map eInt),ii n]=some (ii (gt l n)):=zC_ h (zl_ h h') rfl rfl
theorem azn_ {l:List Int} {n:Int} (h:0≤n) (h':n < l.length):Prim.ev (.scell 1 0) [.l (l.map eInt),ii n]=some (ii (gt l n)):=zM_ h (zl_ h h') rfl rfl rfl
theorem ai8_ {l m:List Int} (h:l.length+m.length < 4294967296):Prim.ev (.app false 1) [.l (l.map eInt),.l (m.map eInt)]=some (.l ((l++m).map eInt)):=x6_ (w:=1) (fun _=>rfl) (.inl rfl) h
theorem afn_ {m:List Int} (h:m.length < 4294967296):Prim.ev (.app false 1) [.l [],.l (m.map eInt)]=some (.l (m.map eInt)):=x5_ (w:=1) (fun _=>rfl) (.inl rfl) h
theorem xk_ {l m:List Int} (h:l.length+m.length < 4294967296):Prim.ev (.app true 1) [.l (l.map eInt),.l (m.map eInt)]=some (.l ((l++m).map eInt)):=x6_ (w:=1) (fun _=>rfl) (.inr fun _=>rfl) h
theorem aja_ {m:List Int} (h:m.length < 4294967296):Prim.ev (.app true 1) [.l [],.l (m.map eInt)]=some (.l (m.map eInt)):=x5_ (w:=1) (fun _=>rfl) (.inr fun _=>rfl) h
theorem aq1_ {l:List Int} {x:Int} (h:l.length < 4294967295):Prim.ev (.app false 1) [.l (l.map eInt),.l ([x].map eInt)]=some (.l ((l++[x]).map eInt)):=ai8_ (by simp;omega)
theorem ao0_ {x:Int}:Prim.ev (.app false 1) [.l [],.l ([x].map eInt)]=some (.l ([x].map eInt)):=afn_ (by simp)
theorem xy_ {l:List Int} {x:Int} (h:l.length < 4294967295):Prim.ev (.app true 1) [.l (l.map eInt),.l ([x].map eInt)]=some (.l ((l++[x]).map eInt)):=xk_ (by simp;omega)
theorem aqt_ {x:Int}:Prim.ev (.app true 1) [.l [],.l ([x].map eInt)]=some (.l ([x].map eInt)):=aja_ (by simp)
theorem aNv_ {l:List Int} {a:Int} (h:0≤a) (h':a≤l.length):Prim.ev (.sub 1 true false) [.l (l.map eInt),ii a]=some (.l ((l.drop a.toNat).map eInt)):=vP_ (enc:=eInt) (w:=1) (fun _=>rfl) h h'
theorem aLy_ {l:List Int} {a:Int} (h:0≤a) (h':a≤l.length):Prim.ev (.sub 1 false true) [.l (l.map eInt),ii a]=some (.l ((l.take a.toNat).map eInt)):=vU_ (enc:=eInt) (w:=1) (fun _=>rfl) h h'
theorem aO2_ (x:Int):Prim.ev (.lit 1 [true]) [ii x]=some (.l ([x].map eInt)):=xA_ (by decide) rfl rfl
theorem aMr_ (x:Int):Prim.ev (.lit 1 []) [ii x]=some (.l ([x].map eInt)):=xA_ (by decide) rfl rfl
theorem aBg_ {l:List Bool} {n:Int} (h:0≤n) (h':n < l.length):Prim.ev (.cell 1 0) [.l (l.map yz_),ii n]=some (bb (gt l n)):=zC_ h (zl_ h h') rfl rfl
theorem aw3_ {l:List Bool} {n:Int} (h:0≤n) (h':n < l.length):Prim.ev (.scell 1 0) [.l (l.map yz_),ii n]=some (bb (gt l n)):=zM_ h (zl_ h h') rfl rfl rfl
theorem afy_ {l m:List Bool} (h:l.length+m.length < 4294967296):Prim.ev (.app false 1) [.l (l.map yz_),.l (m.map yz_)]=some (.l ((l++m).map yz_)):=x6_ (w:=1) (fun _=>rfl) (.inl rfl) h
theorem adf_ {m:List Bool} (h:m.length < 4294967296):Prim.ev (.app false 1) [.l [],.l (m.map yz_)]=some (.l (m.map yz_)):=x5_ (w:=1) (fun _=>rfl) (.inl rfl) h
theorem ajf_ {l m:List Bool} (h:l.length+m.length < 4294967296):Prim.ev (.app true 1) [.l (l.map yz_),.l (m.map yz_)]=some (.l ((l++m).map yz_)):=x6_ (w:=1) (fun _=>rfl) (.inr fun _=>rfl) h
theorem afv_ {m:List Bool} (h:m.length < 4294967296):Prim.ev (.app true 1) [.l [],.l (m.map yz_)]=some (.l (m.map yz_)):=x5_ (w:=1) (fun _=>rfl) (.inr fun _=>rfl) h
theorem ao7_ {l:List Bool} {x:Bool} (h:l.length < 4294967295):Prim.ev (.app false 1) [.l (l.map yz_),.l ([x].map yz_)]=some (.l ((l++[x]).map yz_)):=afy_ (by simp;omega)
theorem anw_ {x:Bool}:Prim.ev (.app false 1) [.l [],.l ([x].map yz_)]=some (.l ([x].map yz_)):=adf_ (by simp)
theorem arh_ {l:List Bool} {x:Bool} (h:l.length < 4294967295):Prim.ev (.app true 1) [.l (l.map yz_),.l ([x].map yz_)]=some (.l ((l++[x]).map yz_)):=ajf_ (by simp;omega)
theorem aoq_ {x:Bool}:Prim.ev (.app true 1) [.l [],.l ([x].map yz_)]=some (.l ([x].map yz_)):=afv_ (by simp)
theorem aKo_ {l:List Bool} {a:Int} (h:0≤a) (h':a≤l.length):Prim.ev (.sub 1 true false) [.l (l.map yz_),ii a]=some (.l ((l.drop a.toNat).map yz_)):=vP_ (enc:=yz_) (w:=1) (fun _=>rfl) h h'
theorem aJ3_ {l:List Bool} {a:Int} (h:0≤a) (h':a≤l.length):Prim.ev (.sub 1 false true) [.l (l.map yz_),ii a]=some (.l ((l.take a.toNat).map yz_)):=vU_ (enc:=yz_) (w:=1) (fun _=>rfl) h h'
theorem aLj_ (x:Bool):Prim.ev (.lit 1 [true]) [bb x]=some (.l ([x].map yz_)):=xA_ (by decide) rfl rfl
theorem aKw_ (x:Bool):Prim.ev (.lit 1 []) [bb x]=some (.l ([x].map yz_)):=xA_ (by decide) rfl rfl
structure Link where
 a:Int
 b:Int
 cost:Int
 area:Int
 deriving Inhabited
def zt_ (x:Link):List T:=[ii x.a,ii x.b,ii x.cost,ii x.area]
def vm_:List Ty:=[.i .i64,.i .i64,.i .i64,.i .i64]
def au5_ (x:Link):Prop:=I64 x.a∧I64 x.b∧I64 x.cost∧I64 x.area
theorem aRz_ (r:List T) (h:WTs vm_ r):∃ x,r=zt_ x∧au5_ x:=by
 obtain ⟨_,_,rfl,⟨v0,rfl,h0⟩,_,_,rfl,⟨v1,rfl,h1⟩,_,_,rfl,⟨v2,rfl,h2⟩,_,_,rfl,⟨v3,rfl,h3⟩,rfl⟩:=xn_ h
 exact ⟨⟨v0,v1,v2,v3⟩,rfl,h0,h1,h2,h3⟩
theorem aN6_ (x:Link) (h:au5_ x):WTs vm_ (zt_ x):=by
 obtain ⟨h0,h1,h2,h3⟩:=h
 exact xx_ ⟨_,_,rfl,⟨_,rfl,h0⟩,_,_,rfl,⟨_,rfl,h1⟩,_,_,rfl,⟨_,rfl,h2⟩,_,_,rfl,⟨_,rfl,h3⟩,rfl⟩
def kA_ (x:Link):Nat:=0
theorem aOj_ (x:Link):xm_ (zt_ x)=kA_ x:=by
 simp only [zt_,kA_,ze_,zo_,z6_,z9_,zH_,Nat.add_zero,Nat.zero_add]
theorem aA2_ {l:List Link} {n:Int} (h:0≤n) (h':n < l.length):Prim.ev (.cell 4 0) [.l (l.map zt_),ii n]=some (ii (gt l n).a):=zC_ h (zl_ h h') rfl rfl
theorem awl_ {l:List Link} {n:Int} (h:0≤n) (h':n < l.length):Prim.ev (.scell 4 0) [.l (l.map zt_),ii n]=some (ii (gt l n).a):=zM_ h (zl_ h h') rfl rfl rfl
theorem az4_ {l:List Link} {n:Int} (h:0≤n) (h':n < l.length):Prim.ev (.cell 4 1) [.l (l.map zt_),ii n]=some (ii (gt l n).b):=zC_ h (zl_ h h') rfl rfl
theorem awt_ {l:List Link} {n:Int} (h:0≤n) (h':n < l.length):Prim.ev (.scell 4 1) [.l (l.map zt_),ii n]=some (ii (gt l n).b):=zM_ h (zl_ h h') rfl rfl rfl
theorem aBx_ {l:List Link} {n:Int} (h:0≤n) (h':n < l.length):Prim.ev (.cell 4 2) [.l (l.map zt_),ii n]=some (ii (gt l n).cost):=zC_ h (zl_ h h') rfl rfl
theorem av5_ {l:List Link} {n:Int} (h:0≤n) (h':n < l.length):Prim.ev (.scell 4 2) [.l (l.map zt_),ii n]=some (ii (gt l n).cost):=zM_ h (zl_ h h') rfl rfl rfl
theorem azh_ {l:List Link} {n:Int} (h:0≤n) (h':n < l.length):Prim.ev (.cell 4 3) [.l (l.map zt_),ii n]=some (ii (gt l n).area):=zC_ h (zl_ h h') rfl rfl
theorem awa_ {l:List Link} {n:Int} (h:0≤n) (h':n < l.length):Prim.ev (.scell 4 3) [.l (l.map zt_),ii n]=some (ii (gt l n).area):=zM_ h (zl_ h h') rfl rfl rfl
theorem af2_ {l m:List Link} (h:l.length+m.length < 4294967296):Prim.ev (.app false 4) [.l (l.map zt_),.l (m.map zt_)]=some (.l ((l++m).map zt_)):=x6_ (w:=4) (fun _=>rfl) (.inl rfl) h
theorem ada_ {m:List Link} (h:m.length < 4294967296):Prim.ev (.app false 4) [.l [],.l (m.map zt_)]=some (.l (m.map zt_)):=x5_ (w:=4) (fun _=>rfl) (.inl rfl) h
theorem aje_ {l m:List Link} (h:l.length+m.length < 4294967296):Prim.ev (.app true 4) [.l (l.map zt_),.l (m.map zt_)]=some (.l ((l++m).map zt_)):=x6_ (w:=4) (fun _=>rfl) (.inr fun _=>rfl) h
theorem afp_ {m:List Link} (h:m.length < 4294967296):Prim.ev (.app true 4) [.l [],.l (m.map zt_)]=some (.l (m.map zt_)):=x5_ (w:=4) (fun _=>rfl) (.inr fun _=>rfl) h
theorem aqf_ {l:List Link} {x:Link} (h:l.length < 4294967295):Prim.ev (.app false 4) [.l (l.map zt_),.l ([x].map zt_)]=some (.l ((l++[x]).map zt_)):=af2_ (by simp;omega)
theorem an1_ {x:Link}:Prim.ev (.app false 4) [.l [],.l ([x].map zt_)]=some (.l ([x].map zt_)):=ada_ (by simp)
theorem are_ {l:List Link} {x:Link} (h:l.length < 4294967295):Prim.ev (.app true 4) [.l (l.map zt_),.l ([x].map zt_)]=some (.l ((l++[x]).map zt_)):=aje_ (by simp;omega)
theorem aqi_ {x:Link}:Prim.ev (.app true 4) [.l [],.l ([x].map zt_)]=some (.l ([x].map zt_)):=afp_ (by simp)
theorem aIn_ {l:List Link} {a:Int} (h:0≤a) (h':a≤l.length):Prim.ev (.sub 4 true false) [.l (l.map zt_),ii a]=some (.l ((l.drop a.toNat).map zt_)):=vP_ (enc:=zt_) (w:=4) (fun _=>rfl) h h'
theorem aKk_ {l:List Link} {a:Int} (h:0≤a) (h':a≤l.length):Prim.ev (.sub 4 false true) [.l (l.map zt_),ii a]=some (.l ((l.take a.toNat).map zt_)):=vU_ (enc:=zt_) (w:=4) (fun _=>rfl) h h'
theorem aL5_ (v0:Int) (v1:Int) (v2:Int) (v3:Int):Prim.ev (.lit 4 [true,true,true,true]) [ii v0,ii v1,ii v2,ii v3]=some (.l ([(⟨v0,v1,v2,v3⟩:Link)].map zt_)):=xA_ (by decide) rfl rfl
theorem aJo_ (v0:Int) (v1:Int) (v2:Int) (v3:Int):Prim.ev (.lit 4 []) [ii v0,ii v1,ii v2,ii v3]=some (.l ([(⟨v0,v1,v2,v3⟩:Link)].map zt_)):=xA_ (by decide) rfl rfl
theorem aMu_ (x:Link):(⟨x.a,x.b,x.cost,x.area⟩:Link)=x:=rfl
structure Thing where
 owner:Int
 key:Int
 cost:Int
 far:Bool
 deriving Inhabited
def zr_ (x:Thing):List T:=[ii x.owner,ii x.key,ii x.cost,bb x.far]
def wD_:List Ty:=[.i .i64,.i .i64,.i .i64,.b]
def aq7_ (x:Thing):Prop:=I64 x.owner∧I64 x.key∧I64 x.cost
theorem aRe_ (r:List T) (h:WTs wD_ r):∃ x,r=zr_ x∧aq7_ x:=by
 obtain ⟨_,_,rfl,⟨v0,rfl,h0⟩,_,_,rfl,⟨v1,rfl,h1⟩,_,_,rfl,⟨v2,rfl,h2⟩,_,_,rfl,⟨v3,rfl⟩,rfl⟩:=xn_ h
 exact ⟨⟨v0,v1,v2,v3⟩,rfl,h0,h1,h2⟩
theorem aKq_ (x:Thing) (h:aq7_ x):WTs wD_ (zr_ x):=by
 obtain ⟨h0,h1,h2⟩:=h
 exact xx_ ⟨_,_,rfl,⟨_,rfl,h0⟩,_,_,rfl,⟨_,rfl,h1⟩,_,_,rfl,⟨_,rfl,h2⟩,_,_,rfl,⟨_,rfl⟩,rfl⟩
def ju_ (x:Thing):Nat:=0
theorem aJe_ (x:Thing):xm_ (zr_ x)=ju_ x:=by
 simp only [zr_,ju_,ze_,zo_,z6_,z9_,zH_,Nat.add_zero,Nat.zero_add]
theorem avh_ {l:List Thing} {n:Int} (h:0≤n) (h':n < l.length):Prim.ev (.cell 4 0) [.l (l.map zr_),ii n]=some (ii (gt l n).owner):=zC_ h (zl_ h h') rfl rfl
theorem as3_ {l:List Thing} {n:Int} (h:0≤n) (h':n < l.length):Prim.ev (.scell 4 0) [.l (l.map zr_),ii n]=some (ii (gt l n).owner):=zM_ h (zl_ h h') rfl rfl rfl
theorem aui_ {l:List Thing} {n:Int} (h:0≤n) (h':n < l.length):Prim.ev (.cell 4 1) [.l (l.map zr_),ii n]=some (ii (gt l n).key):=zC_ h (zl_ h h') rfl rfl
theorem as4_ {l:List Thing} {n:Int} (h:0≤n) (h':n < l.length):Prim.ev (.scell 4 1) [.l (l.map zr_),ii n]=some (ii (gt l n).key):=zM_ h (zl_ h h') rfl rfl rfl
theorem awv_ {l:List Thing} {n:Int} (h:0≤n) (h':n < l.length):Prim.ev (.cell 4 2) [.l (l.map zr_),ii n]=some (ii (gt l n).cost):=zC_ h (zl_ h h') rfl rfl
theorem ata_ {l:List Thing} {n:Int} (h:0≤n) (h':n < l.length):Prim.ev (.scell 4 2) [.l (l.map zr_),ii n]=some (ii (gt l n).cost):=zM_ h (zl_ h h') rfl rfl rfl
theorem aw5_ {l:List Thing} {n:Int} (h:0≤n) (h':n < l.length):Prim.ev (.cell 4 3) [.l (l.map zr_),ii n]=some (bb (gt l n).far):=zC_ h (zl_ h h') rfl rfl
theorem as7_ {l:List Thing} {n:Int} (h:0≤n) (h':n < l.length):Prim.ev (.scell 4 3) [.l (l.map zr_),ii n]=some (bb (gt l n).far):=zM_ h (zl_ h h') rfl rfl rfl
theorem adc_ {l m:List Thing} (h:l.length+m.length < 4294967296):Prim.ev (.app false 4) [.l (l.map zr_),.l (m.map zr_)]=some (.l ((l++m).map zr_)):=x6_ (w:=4) (fun _=>rfl) (.inl rfl) h
theorem ac1_ {m:List Thing} (h:m.length < 4294967296):Prim.ev (.app false 4) [.l [],.l (m.map zr_)]=some (.l (m.map zr_)):=x5_ (w:=4) (fun _=>rfl) (.inl rfl) h
theorem afl_ {l m:List Thing} (h:l.length+m.length < 4294967296):Prim.ev (.app true 4) [.l (l.map zr_),.l (m.map zr_)]=some (.l ((l++m).map zr_)):=x6_ (w:=4) (fun _=>rfl) (.inr fun _=>rfl) h
theorem ad5_ {m:List Thing} (h:m.length < 4294967296):Prim.ev (.app true 4) [.l [],.l (m.map zr_)]=some (.l (m.map zr_)):=x5_ (w:=4) (fun _=>rfl) (.inr fun _=>rfl) h
theorem anr_ {l:List Thing} {x:Thing} (h:l.length < 4294967295):Prim.ev (.app false 4) [.l (l.map zr_),.l ([x].map zr_)]=some (.l ((l++[x]).map zr_)):=adc_ (by simp;omega)
theorem al0_ {x:Thing}:Prim.ev (.app false 4) [.l [],.l ([x].map zr_)]=some (.l ([x].map zr_)):=ac1_ (by simp)
theorem aoy_ {l:List Thing} {x:Thing} (h:l.length < 4294967295):Prim.ev (.app true 4) [.l (l.map zr_),.l ([x].map zr_)]=some (.l ((l++[x]).map zr_)):=afl_ (by simp;omega)
theorem an0_ {x:Thing}:Prim.ev (.app true 4) [.l [],.l ([x].map zr_)]=some (.l ([x].map zr_)):=ad5_ (by simp)
theorem aFf_ {l:List Thing} {a:Int} (h:0≤a) (h':a≤l.length):Prim.ev (.sub 4 true false) [.l (l.map zr_),ii a]=some (.l ((l.drop a.toNat).map zr_)):=vP_ (enc:=zr_) (w:=4) (fun _=>rfl) h h'
theorem aDe_ {l:List Thing} {a:Int} (h:0≤a) (h':a≤l.length):Prim.ev (.sub 4 false true) [.l (l.map zr_),ii a]=some (.l ((l.take a.toNat).map zr_)):=vU_ (enc:=zr_) (w:=4) (fun _=>rfl) h h'
theorem aI1_ (x:Thing):(⟨x.owner,x.key,x.cost,x.far⟩:Thing)=x:=rfl
structure Net where
 n:Int
 links:List Link
 things:List Thing
 deriving Inhabited
structure Near where
 to:Int
 cost:Int
 deriving Inhabited
def zE_ (x:Near):List T:=[ii x.to,ii x.cost]
def aFa_:List Ty:=[.i .i64,.i .i64]
def aqh_ (x:Near):Prop:=I64 x.to∧I64 x.cost
theorem aR3_ (r:List T) (h:WTs aFa_ r):∃ x,r=zE_ x∧aqh_ x:=by
 obtain ⟨_,_,rfl,⟨v0,rfl,h0⟩,_,_,rfl,⟨v1,rfl,h1⟩,rfl⟩:=xn_ h
 exact ⟨⟨v0,v1⟩,rfl,h0,h1⟩
theorem aR6_ (x:Near) (h:aqh_ x):WTs aFa_ (zE_ x):=by
 obtain ⟨h0,h1⟩:=h
 exact xx_ ⟨_,_,rfl,⟨_,rfl,h0⟩,_,_,rfl,⟨_,rfl,h1⟩,rfl⟩
def kx_ (x:Near):Nat:=0
theorem aRl_ (x:Near):xm_ (zE_ x)=kx_ x:=by
 simp only [zE_,kx_,ze_,zo_,z6_,z9_,zH_,Nat.add_zero,Nat.zero_add]
theorem aB8_ {l:List Near} {n:Int} (h:0≤n) (h':n < l.length):Prim.ev (.cell 2 0) [.l (l.map zE_),ii n]=some (ii (gt l n).to):=zC_ h (zl_ h h') rfl rfl
theorem ava_ {l:List Near} {n:Int} (h:0≤n) (h':n < l.length):Prim.ev (.scell 2 0) [.l (l.map zE_),ii n]=some (ii (gt l n).to):=zM_ h (zl_ h h') rfl rfl rfl
theorem ay2_ {l:List Near} {n:Int} (h:0≤n) (h':n < l.length):Prim.ev (.cell 2 1) [.l (l.map zE_),ii n]=some (ii (gt l n).cost):=zC_ h (zl_ h h') rfl rfl
theorem av2_ {l:List Near} {n:Int} (h:0≤n) (h':n < l.length):Prim.ev (.scell 2 1) [.l (l.map zE_),ii n]=some (ii (gt l n).cost):=zM_ h (zl_ h h') rfl rfl rfl
theorem af7_ {l m:List Near} (h:l.length+m.length < 4294967296):Prim.ev (.app false 2) [.l (l.map zE_),.l (m.map zE_)]=some (.l ((l++m).map zE_)):=x6_ (w:=2) (fun _=>rfl) (.inl rfl) h
theorem ad6_ {m:List Near} (h:m.length < 4294967296):Prim.ev (.app false 2) [.l [],.l (m.map zE_)]=some (.l (m.map zE_)):=x5_ (w:=2) (fun _=>rfl) (.inl rfl) h
theorem ai7_ {l m:List Near} (h:l.length+m.length < 4294967296):Prim.ev (.app true 2) [.l (l.map zE_),.l (m.map zE_)]=some (.l ((l++m).map zE_)):=x6_ (w:=2) (fun _=>rfl) (.inr fun _=>rfl) h
theorem af4_ {m:List Near} (h:m.length < 4294967296):Prim.ev (.app true 2) [.l [],.l (m.map zE_)]=some (.l (m.map zE_)):=x5_ (w:=2) (fun _=>rfl) (.inr fun _=>rfl) h
theorem an6_ {l:List Near} {x:Near} (h:l.length < 4294967295):Prim.ev (.app false 2) [.l (l.map zE_),.l ([x].map zE_)]=some (.l ((l++[x]).map zE_)):=af7_ (by simp;omega)
theorem am6_ {x:Near}:Prim.ev (.app false 2) [.l [],.l ([x].map zE_)]=some (.l ([x].map zE_)):=ad6_ (by simp)
theorem aqn_ {l:List Near} {x:Near} (h:l.length < 4294967295):Prim.ev (.app true 2) [.l (l.map zE_),.l ([x].map zE_)]=some (.l ((l++[x]).map zE_)):=ai7_ (by simp;omega)
theorem aoi_ {x:Near}:Prim.ev (.app true 2) [.l [],.l ([x].map zE_)]=some (.l ([x].map zE_)):=af4_ (by simp)
theorem aJm_ {l:List Near} {a:Int} (h:0≤a) (h':a≤l.length):Prim.ev (.sub 2 true false) [.l (l.map zE_),ii a]=some (.l ((l.drop a.toNat).map zE_)):=vP_ (enc:=zE_) (w:=2) (fun _=>rfl) h h'
theorem aKv_ {l:List Near} {a:Int} (h:0≤a) (h':a≤l.length):Prim.ev (.sub 2 false true) [.l (l.map zE_),ii a]=some (.l ((l.take a.toNat).map zE_)):=vU_ (enc:=zE_) (w:=2) (fun _=>rfl) h h'
theorem aLk_ (v0:Int) (v1:Int):Prim.ev (.lit 2 [true,true]) [ii v0,ii v1]=some (.l ([(⟨v0,v1⟩:Near)].map zE_)):=xA_ (by decide) rfl rfl
theorem aIw_ (v0:Int) (v1:Int):Prim.ev (.lit 2 []) [ii v0,ii v1]=some (.l ([(⟨v0,v1⟩:Near)].map zE_)):=xA_ (by decide) rfl rfl
theorem aMx_ (x:Near):(⟨x.to,x.cost⟩:Near)=x:=rfl
structure Rcd where
 area:Int
 kind:Int
 owner:Int
 key:Int
 seq:Int
 near:List Near
 cost:Int
 far:Bool
 deriving Inhabited
def eRcd (x:Rcd):List T:=[ii x.area,ii x.kind,ii x.owner,ii x.key,ii x.seq,.l (x.near.map zE_),ii x.cost,bb x.far]
def yRcd:List Ty:=[.i .i64,.i .i64,.i .i64,.i .i64,.i .i64,.sl aFa_,.i .i64,.b]
def aia_ (x:Rcd):Prop:=I64 x.area∧I64 x.kind∧I64 x.owner∧I64 x.key∧I64 x.seq∧(x.near.length≤maxLen∧∀ y∈x.near,aqh_ y)∧I64 x.cost
theorem dRcd (r:List T) (h:WTs yRcd r):∃ x,r=eRcd x∧aia_ x:=by
 obtain ⟨_,_,rfl,⟨v0,rfl,h0⟩,_,_,rfl,⟨v1,rfl,h1⟩,_,_,rfl,⟨v2,rfl,h2⟩,_,_,rfl,⟨v3,rfl,h3⟩,_,_,rfl,⟨v4,rfl,h4⟩,t5,_,rfl,q5,_,_,rfl,⟨v6,rfl,h6⟩,_,_,rfl,⟨v7,rfl⟩,rfl⟩:=xn_ h
 unfold WT at q5
 obtain ⟨z5,rfl,m5,g5⟩:=q5
 obtain ⟨v5,rfl,h5⟩:=kS_ aR3_ g5
 rw [List.length_map] at m5
 exact ⟨⟨v0,v1,v2,v3,v4,v5,v6,v7⟩,rfl,h0,h1,h2,h3,h4,⟨m5,h5⟩,h6⟩
theorem wRcd (x:Rcd) (h:aia_ x):WTs yRcd (eRcd x):=by
 obtain ⟨h0,h1,h2,h3,h4,h5,h6⟩:=h
 exact xx_ ⟨_,_,rfl,⟨_,rfl,h0⟩,_,_,rfl,⟨_,rfl,h1⟩,_,_,rfl,⟨_,rfl,h2⟩,_,_,rfl,⟨_,rfl,h3⟩,_,_,rfl,⟨_,rfl,h4⟩,_,_,rfl,alt_ (by rw [List.length_map];exact h5.1) (vc_ aR6_ h5.2),_,_,rfl,⟨_,rfl,h6⟩,_,_,rfl,⟨_,rfl⟩,rfl⟩
def uc_ (x:Rcd):Nat:=blks kx_ x.near
theorem bRcd (x:Rcd):xm_ (eRcd x)=uc_ x:=by
 simp only [eRcd,uc_,ze_,zo_,z6_,z9_,zH_,Nat.add_zero,Nat.zero_add,v1_ aRl_]
theorem aEs_ {l:List Rcd} {n:Int} (h:0≤n) (h':n < l.length):Prim.ev (.cell 8 0) [.l (l.map eRcd),ii n]=some (ii (gt l n).area):=zC_ h (zl_ h h') rfl rfl
theorem azy_ {l:List Rcd} {n:Int} (h:0≤n) (h':n < l.length):Prim.ev (.scell 8 0) [.l (l.map eRcd),ii n]=some (ii (gt l n).area):=zM_ h (zl_ h h') rfl rfl rfl
theorem aFy_ {l:List Rcd} {n:Int} (h:0≤n) (h':n < l.length):Prim.ev (.cell 8 1) [.l (l.map eRcd),ii n]=some (ii (gt l n).kind):=zC_ h (zl_ h h') rfl rfl
theorem aAn_ {l:List Rcd} {n:Int} (h:0≤n) (h':n < l.length):Prim.ev (.scell 8 1) [.l (l.map eRcd),ii n]=some (ii (gt l n).kind):=zM_ h (zl_ h h') rfl rfl rfl
theorem aDy_ {l:List Rcd} {n:Int} (h:0≤n) (h':n < l.length):Prim.ev (.cell 8 2) [.l (l.map eRcd),ii n]=some (ii (gt l n).owner):=zC_ h (zl_ h h') rfl rfl
theorem aAy_ {l:List Rcd} {n:Int} (h:0≤n) (h':n < l.length):Prim.ev (.scell 8 2) [.l (l.map eRcd),ii n]=some (ii (gt l n).owner):=zM_ h (zl_ h h') rfl rfl rfl
theorem aDg_ {l:List Rcd} {n:Int} (h:0≤n) (h':n < l.length):Prim.ev (.cell 8 3) [.l (l.map eRcd),ii n]=some (ii (gt l n).key):=zC_ h (zl_ h h') rfl rfl
theorem aB9_ {l:List Rcd} {n:Int} (h:0≤n) (h':n < l.length):Prim.ev (.scell 8 3) [.l (l.map eRcd),ii n]=some (ii (gt l n).key):=zM_ h (zl_ h h') rfl rfl rfl
theorem aD6_ {l:List Rcd} {n:Int} (h:0≤n) (h':n < l.length):Prim.ev (.cell 8 4) [.l (l.map eRcd),ii n]=some (ii (gt l n).seq):=zC_ h (zl_ h h') rfl rfl
theorem aB5_ {l:List Rcd} {n:Int} (h:0≤n) (h':n < l.length):Prim.ev (.scell 8 4) [.l (l.map eRcd),ii n]=some (ii (gt l n).seq):=zM_ h (zl_ h h') rfl rfl rfl
theorem aE3_ {l:List Rcd} {n:Int} (h:0≤n) (h':n < l.length):Prim.ev (.cell 8 5) [.l (l.map eRcd),ii n]=some (.l ((gt l n).near.map zE_)):=zC_ h (zl_ h h') rfl rfl
theorem aJ5_ {l:List Rcd} {n:Int} (h:0≤n) (h':n < l.length):Prim.ev (.dig 8 5) [.l (l.map eRcd),ii n]=some (.l ((gt l n).near.map zE_)):=kV_ h (zl_ h h') rfl rfl
theorem aDk_ {l:List Rcd} {n:Int} (h:0≤n) (h':n < l.length):Prim.ev (.cell 8 6) [.l (l.map eRcd),ii n]=some (ii (gt l n).cost):=zC_ h (zl_ h h') rfl rfl
theorem ay9_ {l:List Rcd} {n:Int} (h:0≤n) (h':n < l.length):Prim.ev (.scell 8 6) [.l (l.map eRcd),ii n]=some (ii (gt l n).cost):=zM_ h (zl_ h h') rfl rfl rfl
theorem aF7_ {l:List Rcd} {n:Int} (h:0≤n) (h':n < l.length):Prim.ev (.cell 8 7) [.l (l.map eRcd),ii n]=some (bb (gt l n).far):=zC_ h (zl_ h h') rfl rfl
theorem aBo_ {l:List Rcd} {n:Int} (h:0≤n) (h':n < l.length):Prim.ev (.scell 8 7) [.l (l.map eRcd),ii n]=some (bb (gt l n).far):=zM_ h (zl_ h h') rfl rfl rfl
theorem uM_ {l m:List Rcd} (h:l.length+m.length < 4294967296):Prim.ev (.app false 8) [.l (l.map eRcd),.l (m.map eRcd)]=some (.l ((l++m).map eRcd)):=x6_ (w:=8) (fun _=>rfl) (.inl rfl) h
theorem af8_ {m:List Rcd} (h:m.length < 4294967296):Prim.ev (.app false 8) [.l [],.l (m.map eRcd)]=some (.l (m.map eRcd)):=x5_ (w:=8) (fun _=>rfl) (.inl rfl) h
theorem aqx_ {l:List Rcd} {x:Rcd} (h:l.length < 4294967295):Prim.ev (.app false 8) [.l (l.map eRcd),.l ([x].map eRcd)]=some (.l ((l++[x]).map eRcd)):=uM_ (by simp;omega)
theorem apw_ {x:Rcd}:Prim.ev (.app false 8) [.l [],.l ([x].map eRcd)]=some (.l ([x].map eRcd)):=af8_ (by simp)
theorem aLx_ {l:List Rcd} {a:Int} (h:0≤a) (h':a≤l.length):Prim.ev (.sub 8 true false) [.l (l.map eRcd),ii a]=some (.l ((l.drop a.toNat).map eRcd)):=vP_ (enc:=eRcd) (w:=8) (fun _=>rfl) h h'
theorem aMk_ {l:List Rcd} {a:Int} (h:0≤a) (h':a≤l.length):Prim.ev (.sub 8 false true) [.l (l.map eRcd),ii a]=some (.l ((l.take a.toNat).map eRcd)):=vU_ (enc:=eRcd) (w:=8) (fun _=>rfl) h h'
theorem aC0_ (v0:Int) (v1:Int) (v2:Int) (v3:Int) (v4:Int) (v5:List Near) (v6:Int) (v7:Bool):Prim.ev (.lit 8 [true,true,true,true,true,false,true,true]) [ii v0,ii v1,ii v2,ii v3,ii v4,.l (v5.map zE_),ii v6,bb v7]=some (.l ([(⟨v0,v1,v2,v3,v4,v5,v6,v7⟩:Rcd)].map eRcd)):=xA_ (by decide) rfl rfl
theorem aMj_ (v0:Int) (v1:Int) (v2:Int) (v3:Int) (v4:Int) (v5:List Near) (v6:Int) (v7:Bool):Prim.ev (.lit 8 []) [ii v0,ii v1,ii v2,ii v3,ii v4,.l (v5.map zE_),ii v6,bb v7]=some (.l ([(⟨v0,v1,v2,v3,v4,v5,v6,v7⟩:Rcd)].map eRcd)):=xA_ (by decide) rfl rfl
theorem aPa_ (x:Rcd):(⟨x.area,x.kind,x.owner,x.key,x.seq,x.near,x.cost,x.far⟩:Rcd)=x:=rfl
structure Way where
 to:Int
 cost:Int
 hops:List Int
 deriving Inhabited
def eWay (x:Way):List T:=[ii x.to,ii x.cost,.l (x.hops.map eInt)]
theorem aG8_ {l:List Way} {n:Int} (h:0≤n) (h':n < l.length):Prim.ev (.cell 3 0) [.l (l.map eWay),ii n]=some (ii (gt l n).to):=zC_ h (zl_ h h') rfl rfl
theorem aBp_ {l:List Way} {n:Int} (h:0≤n) (h':n < l.length):Prim.ev (.scell 3 0) [.l (l.map eWay),ii n]=some (ii (gt l n).to):=zM_ h (zl_ h h') rfl rfl rfl
theorem aG5_ {l:List Way} {n:Int} (h:0≤n) (h':n < l.length):Prim.ev (.cell 3 1) [.l (l.map eWay),ii n]=some (ii (gt l n).cost):=zC_ h (zl_ h h') rfl rfl
theorem aB0_ {l:List Way} {n:Int} (h:0≤n) (h':n < l.length):Prim.ev (.scell 3 1) [.l (l.map eWay),ii n]=some (ii (gt l n).cost):=zM_ h (zl_ h h') rfl rfl rfl
theorem aG7_ {l:List Way} {n:Int} (h:0≤n) (h':n < l.length):Prim.ev (.cell 3 2) [.l (l.map eWay),ii n]=some (.l ((gt l n).hops.map eInt)):=zC_ h (zl_ h h') rfl rfl
theorem aIq_ {l:List Way} {n:Int} (h:0≤n) (h':n < l.length):Prim.ev (.dig 3 2) [.l (l.map eWay),ii n]=some (.l ((gt l n).hops.map eInt)):=kV_ h (zl_ h h') rfl rfl
theorem wA_ {l m:List Way} (h:l.length+m.length < 4294967296):Prim.ev (.app false 3) [.l (l.map eWay),.l (m.map eWay)]=some (.l ((l++m).map eWay)):=x6_ (w:=3) (fun _=>rfl) (.inl rfl) h
theorem wp_ {m:List Way} (h:m.length < 4294967296):Prim.ev (.app false 3) [.l [],.l (m.map eWay)]=some (.l (m.map eWay)):=x5_ (w:=3) (fun _=>rfl) (.inl rfl) h
theorem wF_ {l:List Way} {x:Way} (h:l.length < 4294967295):Prim.ev (.app false 3) [.l (l.map eWay),.l ([x].map eWay)]=some (.l ((l++[x]).map eWay)):=wA_ (by simp;omega)
theorem apc_ {x:Way}:Prim.ev (.app false 3) [.l [],.l ([x].map eWay)]=some (.l ([x].map eWay)):=wp_ (by simp)
theorem aMz_ {l:List Way} {a:Int} (h:0≤a) (h':a≤l.length):Prim.ev (.sub 3 true false) [.l (l.map eWay),ii a]=some (.l ((l.drop a.toNat).map eWay)):=vP_ (enc:=eWay) (w:=3) (fun _=>rfl) h h'
theorem aLm_ {l:List Way} {a:Int} (h:0≤a) (h':a≤l.length):Prim.ev (.sub 3 false true) [.l (l.map eWay),ii a]=some (.l ((l.take a.toNat).map eWay)):=vU_ (enc:=eWay) (w:=3) (fun _=>rfl) h h'
theorem aO0_ (v0:Int) (v1:Int) (v2:List Int):Prim.ev (.lit 3 [true,true,false]) [ii v0,ii v1,.l (v2.map eInt)]=some (.l ([(⟨v0,v1,v2⟩:Way)].map eWay)):=xA_ (by decide) rfl rfl
theorem aM4_ (v0:Int) (v1:Int) (v2:List Int):Prim.ev (.lit 3 []) [ii v0,ii v1,.l (v2.map eInt)]=some (.l ([(⟨v0,v1,v2⟩:Way)].map eWay)):=xA_ (by decide) rfl rfl
theorem aPx_ (x:Way):(⟨x.to,x.cost,x.hops⟩:Way)=x:=rfl
structure Route where
 thing:Bool
 to:Int
 kind:Int
 cost:Int
 far:Int
 hops:List Int
 deriving Inhabited
def zI_ (x:Route):List T:=[bb x.thing,ii x.to,ii x.kind,ii x.cost,ii x.far,.l (x.hops.map eInt)]
theorem awi_ {l:List Route} {n:Int} (h:0≤n) (h':n < l.length):Prim.ev (.cell 6 0) [.l (l.map zI_),ii n]=some (bb (gt l n).thing):=zC_ h (zl_ h h') rfl rfl
theorem atp_ {l:List Route} {n:Int} (h:0≤n) (h':n < l.length):Prim.ev (.scell 6 0) [.l (l.map zI_),ii n]=some (bb (gt l n).thing):=zM_ h (zl_ h h') rfl rfl rfl
theorem au1_ {l:List Route} {n:Int} (h:0≤n) (h':n < l.length):Prim.ev (.cell 6 1) [.l (l.map zI_),ii n]=some (ii (gt l n).to):=zC_ h (zl_ h h') rfl rfl
theorem as8_ {l:List Route} {n:Int} (h:0≤n) (h':n < l.length):Prim.ev (.scell 6 1) [.l (l.map zI_),ii n]=some (ii (gt l n).to):=zM_ h (zl_ h h') rfl rfl rfl
theorem avv_ {l:List Route} {n:Int} (h:0≤n) (h':n < l.length):Prim.ev (.cell 6 2) [.l (l.map zI_),ii n]=some (ii (gt l n).kind):=zC_ h (zl_ h h') rfl rfl
theorem atf_ {l:List Route} {n:Int} (h:0≤n) (h':n < l.length):Prim.ev (.scell 6 2) [.l (l.map zI_),ii n]=some (ii (gt l n).kind):=zM_ h (zl_ h h') rfl rfl rfl
theorem aws_ {l:List Route} {n:Int} (h:0≤n) (h':n < l.length):Prim.ev (.cell 6 3) [.l (l.map zI_),ii n]=some (ii (gt l n).cost):=zC_ h (zl_ h h') rfl rfl
theorem ate_ {l:List Route} {n:Int} (h:0≤n) (h':n < l.length):Prim.ev (.scell 6 3) [.l (l.map zI_),ii n]=some (ii (gt l n).cost):=zM_ h (zl_ h h') rfl rfl rfl
theorem axi_ {l:List Route} {n:Int} (h:0≤n) (h':n < l.length):Prim.ev (.cell 6 4) [.l (l.map zI_),ii n]=some (ii (gt l n).far):=zC_ h (zl_ h h') rfl rfl
theorem att_ {l:List Route} {n:Int} (h:0≤n) (h':n < l.length):Prim.ev (.scell 6 4) [.l (l.map zI_),ii n]=some (ii (gt l n).far):=zM_ h (zl_ h h') rfl rfl rfl
theorem ayl_ {l:List Route} {n:Int} (h:0≤n) (h':n < l.length):Prim.ev (.cell 6 5) [.l (l.map zI_),ii n]=some (.l ((gt l n).hops.map eInt)):=zC_ h (zl_ h h') rfl rfl
theorem ay3_ {l:List Route} {n:Int} (h:0≤n) (h':n < l.length):Prim.ev (.dig 6 5) [.l (l.map zI_),ii n]=some (.l ((gt l n).hops.map eInt)):=kV_ h (zl_ h h') rfl rfl
theorem adu_ {l m:List Route} (h:l.length+m.length < 4294967296):Prim.ev (.app false 6) [.l (l.map zI_),.l (m.map zI_)]=some (.l ((l++m).map zI_)):=x6_ (w:=6) (fun _=>rfl) (.inl rfl) h
theorem ab0_ {m:List Route} (h:m.length < 4294967296):Prim.ev (.app false 6) [.l [],.l (m.map zI_)]=some (.l (m.map zI_)):=x5_ (w:=6) (fun _=>rfl) (.inl rfl) h
theorem anb_ {l:List Route} {x:Route} (h:l.length < 4294967295):Prim.ev (.app false 6) [.l (l.map zI_),.l ([x].map zI_)]=some (.l ((l++[x]).map zI_)):=adu_ (by simp;omega)
theorem alz_ {x:Route}:Prim.ev (.app false 6) [.l [],.l ([x].map zI_)]=some (.l ([x].map zI_)):=ab0_ (by simp)
theorem aDi_ {l:List Route} {a:Int} (h:0≤a) (h':a≤l.length):Prim.ev (.sub 6 true false) [.l (l.map zI_),ii a]=some (.l ((l.drop a.toNat).map zI_)):=vP_ (enc:=zI_) (w:=6) (fun _=>rfl) h h'
theorem aGb_ {l:List Route} {a:Int} (h:0≤a) (h':a≤l.length):Prim.ev (.sub 6 false true) [.l (l.map zI_),ii a]=some (.l ((l.take a.toNat).map zI_)):=vU_ (enc:=zI_) (w:=6) (fun _=>rfl) h h'
theorem aIa_ (v0:Bool) (v1:Int) (v2:Int) (v3:Int) (v4:Int) (v5:List Int):Prim.ev (.lit 6 [true,true,true,true,true,false]) [bb v0,ii v1,ii v2,ii v3,ii v4,.l (v5.map eInt)]=some (.l ([(⟨v0,v1,v2,v3,v4,v5⟩:Route)].map zI_)):=xA_ (by decide) rfl rfl
theorem aFn_ (v0:Bool) (v1:Int) (v2:Int) (v3:Int) (v4:Int) (v5:List Int):Prim.ev (.lit 6 []) [bb v0,ii v1,ii v2,ii v3,ii v4,.l (v5.map eInt)]=some (.l ([(⟨v0,v1,v2,v3,v4,v5⟩:Route)].map zI_)):=xA_ (by decide) rfl rfl
theorem aH3_ (x:Route):(⟨x.thing,x.to,x.kind,x.cost,x.far,x.hops⟩:Route)=x:=rfl
structure Self where
 id:Int
 boot:Int
 net:Net
 heard:List Int
 store:List Rcd
 deriving Inhabited
def zZ_ (x:Self):List T:=[ii x.id,ii x.boot,ii x.net.n,.l (x.net.links.map zt_),.l (x.net.things.map zr_),.l (x.heard.map eInt),.l (x.store.map eRcd)]
def aGh_:List Ty:=[.i .i64,.i .i64,.i .i64,.sl vm_,.sl wD_,.sl yInt,.sl yRcd]
def awn_ (x:Self):Prop:=I64 x.id∧I64 x.boot∧I64 x.net.n∧(x.net.links.length≤maxLen∧∀ y∈x.net.links,au5_ y)∧(x.net.things.length≤maxLen∧∀ y∈x.net.things,aq7_ y)∧(x.heard.length≤maxLen∧∀ y∈x.heard,aFk_ y)∧(x.store.length≤maxLen∧∀ y∈x.store,aia_ y)
theorem aR8_ (r:List T) (h:WTs aGh_ r):∃ x,r=zZ_ x∧awn_ x:=by
 obtain ⟨_,_,rfl,⟨v0,rfl,h0⟩,_,_,rfl,⟨v1,rfl,h1⟩,_,_,rfl,⟨v2,rfl,h2⟩,t3,_,rfl,q3,t4,_,rfl,q4,t5,_,rfl,q5,t6,_,rfl,q6,rfl⟩:=xn_ h
 unfold WT at q3
 obtain ⟨z3,rfl,m3,g3⟩:=q3
 obtain ⟨v3,rfl,h3⟩:=kS_ aRz_ g3
 rw [List.length_map] at m3
 unfold WT at q4
 obtain ⟨z4,rfl,m4,g4⟩:=q4
 obtain ⟨v4,rfl,h4⟩:=kS_ aRe_ g4
 rw [List.length_map] at m4
 unfold WT at q5
 obtain ⟨z5,rfl,m5,g5⟩:=q5
 obtain ⟨v5,rfl,h5⟩:=kS_ dInt g5
 rw [List.length_map] at m5
 unfold WT at q6
 obtain ⟨z6,rfl,m6,g6⟩:=q6
 obtain ⟨v6,rfl,h6⟩:=kS_ dRcd g6
 rw [List.length_map] at m6
 exact ⟨⟨v0,v1,⟨v2,v3,v4⟩,v5,v6⟩,rfl,h0,h1,h2,⟨m3,h3⟩,⟨m4,h4⟩,⟨m5,h5⟩,⟨m6,h6⟩⟩
theorem aSa_ (x:Self) (h:awn_ x):WTs aGh_ (zZ_ x):=by
 obtain ⟨h0,h1,h2,h3,h4,h5,h6⟩:=h
 exact xx_ ⟨_,_,rfl,⟨_,rfl,h0⟩,_,_,rfl,⟨_,rfl,h1⟩,_,_,rfl,⟨_,rfl,h2⟩,_,_,rfl,alt_ (by rw [List.length_map];exact h3.1) (vc_ aN6_ h3.2),_,_,rfl,alt_ (by rw [List.length_map];exact h4.1) (vc_ aKq_ h4.2),_,_,rfl,alt_ (by rw [List.length_map];exact h5.1) (vc_ wInt h5.2),_,_,rfl,alt_ (by rw [List.length_map];exact h6.1) (vc_ wRcd h6.2),rfl⟩
def q3_ (x:Self):Nat:=blks kA_ x.net.links+blks ju_ x.net.things+blks acp_ x.heard+blks uc_ x.store
theorem at7_ (x:Self):xm_ (zZ_ x)=q3_ x:=by
 simp only [zZ_,q3_,ze_,zo_,z6_,z9_,zH_,Nat.add_zero,Nat.zero_add,v1_ bInt,v1_ aOj_,v1_ bRcd,v1_ aJe_]
 try omega
theorem aAd_ {l:List Self} {n:Int} (h:0≤n) (h':n < l.length):Prim.ev (.cell 7 0) [.l (l.map zZ_),ii n]=some (ii (gt l n).id):=zC_ h (zl_ h h') rfl rfl
theorem av1_ {l:List Self} {n:Int} (h:0≤n) (h':n < l.length):Prim.ev (.scell 7 0) [.l (l.map zZ_),ii n]=some (ii (gt l n).id):=zM_ h (zl_ h h') rfl rfl rfl
theorem aA0_ {l:List Self} {n:Int} (h:0≤n) (h':n < l.length):Prim.ev (.cell 7 1) [.l (l.map zZ_),ii n]=some (ii (gt l n).boot):=zC_ h (zl_ h h') rfl rfl
theorem awm_ {l:List Self} {n:Int} (h:0≤n) (h':n < l.length):Prim.ev (.scell 7 1) [.l (l.map zZ_),ii n]=some (ii (gt l n).boot):=zM_ h (zl_ h h') rfl rfl rfl
theorem az9_ {l:List Self} {n:Int} (h:0≤n) (h':n < l.length):Prim.ev (.cell 7 2) [.l (l.map zZ_),ii n]=some (ii (gt l n).net.n):=zC_ h (zl_ h h') rfl rfl
theorem auy_ {l:List Self} {n:Int} (h:0≤n) (h':n < l.length):Prim.ev (.scell 7 2) [.l (l.map zZ_),ii n]=some (ii (gt l n).net.n):=zM_ h (zl_ h h') rfl rfl rfl
theorem aBe_ {l:List Self} {n:Int} (h:0≤n) (h':n < l.length):Prim.ev (.cell 7 3) [.l (l.map zZ_),ii n]=some (.l ((gt l n).net.links.map zt_)):=zC_ h (zl_ h h') rfl rfl
theorem aGx_ {l:List Self} {n:Int} (h:0≤n) (h':n < l.length):Prim.ev (.dig 7 3) [.l (l.map zZ_),ii n]=some (.l ((gt l n).net.links.map zt_)):=kV_ h (zl_ h h') rfl rfl
theorem aAg_ {l:List Self} {n:Int} (h:0≤n) (h':n < l.length):Prim.ev (.cell 7 4) [.l (l.map zZ_),ii n]=some (.l ((gt l n).net.things.map zr_)):=zC_ h (zl_ h h') rfl rfl
theorem aEb_ {l:List Self} {n:Int} (h:0≤n) (h':n < l.length):Prim.ev (.dig 7 4) [.l (l.map zZ_),ii n]=some (.l ((gt l n).net.things.map zr_)):=kV_ h (zl_ h h') rfl rfl
theorem azf_ {l:List Self} {n:Int} (h:0≤n) (h':n < l.length):Prim.ev (.cell 7 5) [.l (l.map zZ_),ii n]=some (.l ((gt l n).heard.map eInt)):=zC_ h (zl_ h h') rfl rfl
theorem aFe_ {l:List Self} {n:Int} (h:0≤n) (h':n < l.length):Prim.ev (.dig 7 5) [.l (l.map zZ_),ii n]=some (.l ((gt l n).heard.map eInt)):=kV_ h (zl_ h h') rfl rfl
theorem aBv_ {l:List Self} {n:Int} (h:0≤n) (h':n < l.length):Prim.ev (.cell 7 6) [.l (l.map zZ_),ii n]=some (.l ((gt l n).store.map eRcd)):=zC_ h (zl_ h h') rfl rfl
theorem aGc_ {l:List Self} {n:Int} (h:0≤n) (h':n < l.length):Prim.ev (.dig 7 6) [.l (l.map zZ_),ii n]=some (.l ((gt l n).store.map eRcd)):=kV_ h (zl_ h h') rfl rfl
theorem af3_ {l m:List Self} (h:l.length+m.length < 4294967296):Prim.ev (.app false 7) [.l (l.map zZ_),.l (m.map zZ_)]=some (.l ((l++m).map zZ_)):=x6_ (w:=7) (fun _=>rfl) (.inl rfl) h
theorem ac9_ {m:List Self} (h:m.length < 4294967296):Prim.ev (.app false 7) [.l [],.l (m.map zZ_)]=some (.l (m.map zZ_)):=x5_ (w:=7) (fun _=>rfl) (.inl rfl) h
theorem app_ {l:List Self} {x:Self} (h:l.length < 4294967295):Prim.ev (.app false 7) [.l (l.map zZ_),.l ([x].map zZ_)]=some (.l ((l++[x]).map zZ_)):=af3_ (by simp;omega)
theorem am4_ {x:Self}:Prim.ev (.app false 7) [.l [],.l ([x].map zZ_)]=some (.l ([x].map zZ_)):=ac9_ (by simp)
theorem aKn_ {l:List Self} {a:Int} (h:0≤a) (h':a≤l.length):Prim.ev (.sub 7 true false) [.l (l.map zZ_),ii a]=some (.l ((l.drop a.toNat).map zZ_)):=vP_ (enc:=zZ_) (w:=7) (fun _=>rfl) h h'
theorem aK5_ {l:List Self} {a:Int} (h:0≤a) (h':a≤l.length):Prim.ev (.sub 7 false true) [.l (l.map zZ_),ii a]=some (.l ((l.take a.toNat).map zZ_)):=vU_ (enc:=zZ_) (w:=7) (fun _=>rfl) h h'
theorem aMf_ (v0:Int) (v1:Int) (v2:Int) (v3:List Link) (v4:List Thing) (v5:List Int) (v6:List Rcd):Prim.ev (.lit 7 [true,true,true,false,false,false,false]) [ii v0,ii v1,ii v2,.l (v3.map zt_),.l (v4.map zr_),.l (v5.map eInt),.l (v6.map eRcd)]=some (.l ([(⟨v0,v1,⟨v2,v3,v4⟩,v5,v6⟩:Self)].map zZ_)):=xA_ (by decide) rfl rfl
theorem aH6_ (v0:Int) (v1:Int) (v2:Int) (v3:List Link) (v4:List Thing) (v5:List Int) (v6:List Rcd):Prim.ev (.lit 7 []) [ii v0,ii v1,ii v2,.l (v3.map zt_),.l (v4.map zr_),.l (v5.map eInt),.l (v6.map eRcd)]=some (.l ([(⟨v0,v1,⟨v2,v3,v4⟩,v5,v6⟩:Self)].map zZ_)):=xA_ (by decide) rfl rfl
theorem aLw_ (x:Self):(⟨x.id,x.boot,⟨x.net.n,x.net.links,x.net.things⟩,x.heard,x.store⟩:Self)=x:=rfl
structure Ear where
 node:Int
 area:Int
 left:Int
 both:Bool
 deriving Inhabited
def eEar (x:Ear):List T:=[ii x.node,ii x.area,ii x.left,bb x.both]
theorem aEv_ {l:List Ear} {n:Int} (h:0≤n) (h':n < l.length):Prim.ev (.cell 4 0) [.l (l.map eEar),ii n]=some (ii (gt l n).node):=zC_ h (zl_ h h') rfl rfl
theorem az2_ {l:List Ear} {n:Int} (h:0≤n) (h':n < l.length):Prim.ev (.scell 4 0) [.l (l.map eEar),ii n]=some (ii (gt l n).node):=zM_ h (zl_ h h') rfl rfl rfl
theorem aF6_ {l:List Ear} {n:Int} (h:0≤n) (h':n < l.length):Prim.ev (.cell 4 1) [.l (l.map eEar),ii n]=some (ii (gt l n).area):=zC_ h (zl_ h h') rfl rfl
theorem aza_ {l:List Ear} {n:Int} (h:0≤n) (h':n < l.length):Prim.ev (.scell 4 1) [.l (l.map eEar),ii n]=some (ii (gt l n).area):=zM_ h (zl_ h h') rfl rfl rfl
theorem aEj_ {l:List Ear} {n:Int} (h:0≤n) (h':n < l.length):Prim.ev (.cell 4 2) [.l (l.map eEar),ii n]=some (ii (gt l n).left):=zC_ h (zl_ h h') rfl rfl
theorem aBf_ {l:List Ear} {n:Int} (h:0≤n) (h':n < l.length):Prim.ev (.scell 4 2) [.l (l.map eEar),ii n]=some (ii (gt l n).left):=zM_ h (zl_ h h') rfl rfl rfl
theorem aFj_ {l:List Ear} {n:Int} (h:0≤n) (h':n < l.length):Prim.ev (.cell 4 3) [.l (l.map eEar),ii n]=some (bb (gt l n).both):=zC_ h (zl_ h h') rfl rfl
theorem azc_ {l:List Ear} {n:Int} (h:0≤n) (h':n < l.length):Prim.ev (.scell 4 3) [.l (l.map eEar),ii n]=some (bb (gt l n).both):=zM_ h (zl_ h h') rfl rfl rfl
theorem ai9_ {l m:List Ear} (h:l.length+m.length < 4294967296):Prim.ev (.app false 4) [.l (l.map eEar),.l (m.map eEar)]=some (.l ((l++m).map eEar)):=x6_ (w:=4) (fun _=>rfl) (.inl rfl) h
theorem afi_ {m:List Ear} (h:m.length < 4294967296):Prim.ev (.app false 4) [.l [],.l (m.map eEar)]=some (.l (m.map eEar)):=x5_ (w:=4) (fun _=>rfl) (.inl rfl) h
theorem ak0_ {l m:List Ear} (h:l.length+m.length < 4294967296):Prim.ev (.app true 4) [.l (l.map eEar),.l (m.map eEar)]=some (.l ((l++m).map eEar)):=x6_ (w:=4) (fun _=>rfl) (.inr fun _=>rfl) h
theorem ai6_ {m:List Ear} (h:m.length < 4294967296):Prim.ev (.app true 4) [.l [],.l (m.map eEar)]=some (.l (m.map eEar)):=x5_ (w:=4) (fun _=>rfl) (.inr fun _=>rfl) h
theorem aqm_ {l:List Ear} {x:Ear} (h:l.length < 4294967295):Prim.ev (.app false 4) [.l (l.map eEar),.l ([x].map eEar)]=some (.l ((l++[x]).map eEar)):=ai9_ (by simp;omega)
theorem ao4_ {x:Ear}:Prim.ev (.app false 4) [.l [],.l ([x].map eEar)]=some (.l ([x].map eEar)):=afi_ (by simp)
theorem as5_ {l:List Ear} {x:Ear} (h:l.length < 4294967295):Prim.ev (.app true 4) [.l (l.map eEar),.l ([x].map eEar)]=some (.l ((l++[x]).map eEar)):=ak0_ (by simp;omega)
theorem arf_ {x:Ear}:Prim.ev (.app true 4) [.l [],.l ([x].map eEar)]=some (.l ([x].map eEar)):=ai6_ (by simp)
theorem aMh_ {l:List Ear} {a:Int} (h:0≤a) (h':a≤l.length):Prim.ev (.sub 4 true false) [.l (l.map eEar),ii a]=some (.l ((l.drop a.toNat).map eEar)):=vP_ (enc:=eEar) (w:=4) (fun _=>rfl) h h'
theorem aN3_ {l:List Ear} {a:Int} (h:0≤a) (h':a≤l.length):Prim.ev (.sub 4 false true) [.l (l.map eEar),ii a]=some (.l ((l.take a.toNat).map eEar)):=vU_ (enc:=eEar) (w:=4) (fun _=>rfl) h h'
theorem aQf_ (v0:Int) (v1:Int) (v2:Int) (v3:Bool):Prim.ev (.lit 4 [true,true,true,true]) [ii v0,ii v1,ii v2,bb v3]=some (.l ([(⟨v0,v1,v2,v3⟩:Ear)].map eEar)):=xA_ (by decide) rfl rfl
theorem aLg_ (v0:Int) (v1:Int) (v2:Int) (v3:Bool):Prim.ev (.lit 4 []) [ii v0,ii v1,ii v2,bb v3]=some (.l ([(⟨v0,v1,v2,v3⟩:Ear)].map eEar)):=xA_ (by decide) rfl rfl
theorem aOw_ (x:Ear):(⟨x.node,x.area,x.left,x.both⟩:Ear)=x:=rfl
structure Node where
 self:Self
 ears:List Ear
 deriving Inhabited
structure Packet where
 kind:Int
 frm:Int
 to:Int
 area:Int
 heard:List Int
 list:List Rcd
 deriving Inhabited
structure World where
 net:Net
 links:List Bool
 up:List Bool
 boots:List Int
 nodes:List Node
 flying:List Packet
 told:List Rcd
 errors:Int
 deriving Inhabited
end Go.Proofs.YtiebbbmibbkpcaaGreatC
