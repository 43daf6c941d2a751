/- The walk by reflection: a part of its laws, for any function. Conditions: none. -/
import Derived.Test.YtiebbbmibbkpcaaGreatKc
import Derived.ChangeSame
import Derived.JoinedOf
import Derived.JoinedAt
import Derived.RowKit3
import Derived.Carry
namespace Go.Proofs.YtiebbbmibbkpcaaGreatC
set_option linter.unusedVariables false
set_option linter.unusedSimpArgs false
theorem aMd_ {α β:Type} {F:(α→Option β)→α→Option β} {n:Nat} (Inv:Nat→α→Prop) {Q:Option β→Prop}
  (step:∀ i x,i < n→Inv i x→∀ s,(∃ x',Inv (i+1) x'∧F s x=s x')∨Q (F s x)) (fin:∀ x,Inv n x→∀ s,Q (F s x)) {x:α} (hx:Inv 0 x) {R:Nat} (hR:n < R):Q (iter F R x):=by
 have:∀ d i x,i+d=n→Inv i x→∀ R,d < R→Q (iter F R x):=by
  intro d
  induction d with
  | zero =>
   intro i x hi hx R hR
   cases R with
   | zero=>omega
   | succ R=>rw [Nat.add_zero] at hi;subst hi;exact fin x hx _
  | succ d ih =>
   intro i x hi hx R hR
   cases R with
   | zero=>omega
   | succ R =>
    unfold iter
    rcases step i x (by omega) hx (iter F R) with ⟨x',h1,h2⟩ | h
    ·rw [h2];exact ih (i+1) x' (by omega) h1 R (by omega)
    ·exact h
 exact this n 0 x (by omega) hx R hR
def Both (o o':Option (List T)):Prop:=∃ b,o=some [.c (.bool b)]∧o'=some [.c (.bool b)]
theorem aPm_ (a b c d:Int):Prim.ev (.eqs [1,1]) [.c (.int .i64 a),.c (.int .i64 b),.c (.int .i64 c),.c (.int .i64 d)]=some (.c (.bool (a == c && (b == d)))):=by
 simp [Prim.ev,eqT,eqV]
set_option linter.unusedSimpArgs false
def ze_ (g:Nat→List T→Nat × List T):Nat→List (List T)→Nat × List (List T)
 | n,[]=>(n,[])
 | n,r :: rs=>((ze_ g (g n r).1 rs).1,(g n r).2 :: (ze_ g (g n r).1 rs).2)
mutual
def mkT:Ty→Nat→T→Nat × T
 | .i k,n,_=>(n+1,.c (.int k (n:Int)))
 | .b,n,_=>(n+1,.c (.bool (n % 3 == 0)))
 | .s,n,t=>(n,t)
 | .sl fs,n,t=>match t with
  | .l xs=>((ze_ (mkR fs) n xs).1,.l (ze_ (mkR fs) n xs).2)
  | t=>(n,t)
def mkR:List Ty→Nat→List T→Nat × List T
 | [],n,_=>(n,[])
 | f :: fs,n,ts=>match ts with
  | t :: ts=>((mkR fs (mkT f n t).1 ts).1,(mkT f n t).2 :: (mkR fs (mkT f n t).1 ts).2)
  | []=>(n,[])
end
theorem kb_ (n:Nat) (ts:List T):mkR [] n ts=(n,[]):=by simp only [mkR]
theorem vs_ (f:Ty) (fs:List Ty) (n:Nat) (t:T) (ts:List T):mkR (f :: fs) n (t :: ts)=((mkR fs (mkT f n t).1 ts).1,(mkT f n t).2 :: (mkR fs (mkT f n t).1 ts).2):=by simp only [mkR]
theorem al1_ (k:IntKind) (n:Nat) (t:T):mkT (.i k) n t=(n+1,.c (.int k (n:Int))):=by simp only [mkT]
theorem alv_ (n:Nat) (t:T):mkT .b n t=(n+1,.c (.bool (n % 3 == 0))):=by simp only [mkT]
theorem akm_ (fs:List Ty) (n:Nat) (xs:List (List T)):mkT (.sl fs) n (.l xs)=((ze_ (mkR fs) n xs).1,.l (ze_ (mkR fs) n xs).2):=by simp only [mkT]
theorem ajf_ {g:Nat→List T→Nat × List T}:∀ (xs:List (List T)) (n:Nat) (r:List T),ze_ g n (xs++[r])=((g (ze_ g n xs).1 r).1,(ze_ g n xs).2++[(g (ze_ g n xs).1 r).2])
 | [],n,r=>rfl
 | x :: xs,n,r=>by
  show ((ze_ g (g n x).1 (xs++[r])).1,(g n x).2 :: (ze_ g (g n x).1 (xs++[r])).2)=_
  rw [ajf_ xs]
  rfl
theorem q7_ {g:Nat→List T→Nat × List T}:∀ (xs:List (List T)) (n:Nat),(ze_ g n xs).2.length=xs.length
 | [],n=>rfl
 | x :: xs,n=>by simp [ze_,q7_ xs]
theorem amm_ {g:Nat→List T→Nat × List T} {xs:List (List T)} {i:Nat} {r:List T} (h:xs[i]?=some r) (n:Nat):ze_ g n (xs.take (i+1))=((g (ze_ g n (xs.take i)).1 r).1,(ze_ g n (xs.take i)).2++[(g (ze_ g n (xs.take i)).1 r).2]):=by
 rw [ash_ h,ajf_]
theorem apk_ {g:Nat→List T→Nat × List T}:∀ {xs:List (List T)} {i:Nat} {r:List T} (n:Nat),xs[i]?=some r→(ze_ g n xs).2[i]?=some (g (ze_ g n (xs.take i)).1 r).2
 | [],_,_,_,h=>by simp at h
 | x :: xs,0,r,n,h=>by simp at h;subst h;simp [ze_]
 | x :: xs,i+1,r,n,h=>by
  have:=apk_ (g:=g) (xs:=xs) (i:=i) (r:=r) (g n x).1 (by simpa using h)
  simpa [ze_] using this
mutual
def uF_:Ty→Bool
 | .i .i64=>true
 | .i _=>false
 | .b=>true
 | .s=>false
 | .sl fs=>Nat.ble fs.length 64 && mkOk fs
def mkOk:List Ty→Bool
 | []=>true
 | f :: fs=>uF_ f && mkOk fs
end
theorem ad2_ {f:Ty} {fs:List Ty} (h:mkOk (f :: fs)=true):uF_ f=true∧mkOk fs=true:=by
 unfold mkOk at h
 simpa using h
theorem abu_ {fs:List Ty} (h:uF_ (.sl fs)=true):fs.length≤64∧mkOk fs=true:=by
 unfold uF_ at h
 simp only [Bool.and_eq_true] at h
 exact ⟨Nat.le_of_ble_eq_true h.1,h.2⟩
theorem aea_ {g:Nat→List T→Nat × List T} {xs:List (List T)} (hg:∀ n,∀ r∈xs,n≤(g n r).1∧(g n r).1≤n+64 * (1+xc_ r)):∀ (n:Nat),n≤(ze_ g n xs).1∧(ze_ g n xs).1≤n+64 * zH_ xs:=by
 induction xs with
 | nil=>intro n;simp [ze_,zH_]
 | cons x xs ih =>
  intro n
  have h1:=hg n x (.head _)
  have h2:=ih (fun n r hr=>hg n r (.tail _ hr)) (g n x).1
  simp only [ze_,zH_]
  omega
mutual
theorem aop_:∀ (f:Ty) (n:Nat) (t:T),uF_ f=true→WT f t→n≤(mkT f n t).1∧(mkT f n t).1≤n+1+64 * bulk t
 | .i k,n,t,_,_=>by simp only [al1_];omega
 | .b,n,t,_,_=>by simp only [alv_];omega
 | .s,n,t,h,_=>by simp [uF_] at h
 | .sl fs,n,t,h,ht=>by
  unfold WT at ht
  obtain ⟨xs,rfl,_,hx⟩:=ht
  have hm:=abu_ h
  rw [akm_,z3_]
  have:=aea_ (g:=mkR fs) (xs:=xs) (fun n r hr=>by
   have:=af2_ fs n r hm.2 (hx r hr)
   omega) n
  simp only
  omega
theorem af2_:∀ (fs:List Ty) (n:Nat) (ts:List T),mkOk fs=true→WTs fs ts→n≤(mkR fs n ts).1∧(mkR fs n ts).1≤n+fs.length+64 * xc_ ts
 | [],n,ts,_,_=>by simp only [kb_,List.length_nil];omega
 | f :: fs,n,ts,h,ht=>by
  unfold WTs at ht
  obtain ⟨t,ts',rfl,h1,h2⟩:=ht
  have hm:=ad2_ h
  have g1:=aop_ f n t hm.1 h1
  have g2:=af2_ fs (mkT f n t).1 ts' hm.2 h2
  rw [vs_,zo_]
  simp only [List.length_cons]
  omega
end
mutual
theorem aR3_:∀ (f:Ty) (n:Nat) (t:T),uF_ f=true→WT f t→n+1+64 * bulk t < 4611686018427387904→WT f (mkT f n t).2∧bulk (mkT f n t).2=bulk t
 | .i k,n,t,hk,ht,hn=>by
  unfold WT at ht
  obtain ⟨m,rfl,_⟩:=ht
  rw [al1_,yw_,yw_]
  refine ⟨?_,rfl⟩
  unfold WT
  cases k with
  | i64=>exact ⟨n,rfl,by simp [Lit.wf,IntKind.min,IntKind.max,IntKind.signed,IntKind.bits];omega⟩
  | _=>simp [uF_] at hk
 | .b,n,t,_,ht,_=>by
  unfold WT at ht
  obtain ⟨m,rfl⟩:=ht
  rw [alv_,yB_,yB_]
  refine ⟨?_,rfl⟩
  unfold WT
  exact ⟨_,rfl⟩
 | .s,n,t,h,_,_=>by simp [uF_] at h
 | .sl fs,n,t,h,ht,hn=>by
  unfold WT at ht
  obtain ⟨xs,rfl,hl,hx⟩:=ht
  have hm:=abu_ h
  rw [akm_,z3_,z3_]
  rw [z3_] at hn
  have:∀ (xs:List (List T)) (n:Nat),(∀ r∈xs,WTs fs r)→n+1+64 * zH_ xs < 4611686018427387904→(∀ r∈(ze_ (mkR fs) n xs).2,WTs fs r)∧zH_ (ze_ (mkR fs) n xs).2=zH_ xs:=by
   intro xs
   induction xs with
   | nil=>intro n _ _;simp [ze_]
   | cons x xs ih =>
    intro n hx hn
    simp only [zH_] at hn
    have g0:=af2_ fs n x hm.2 (hx x (.head _))
    have g1:=auq_ fs n x hm.2 (hx x (.head _)) (by omega)
    have g2:=ih (mkR fs n x).1 (fun r hr=>hx r (.tail _ hr)) (by omega)
    simp only [ze_,zH_,List.mem_cons]
    refine ⟨?_,by rw [g1.2,g2.2]⟩
    rintro r (rfl | hr)
    ·exact g1.1
    ·exact g2.1 r hr
  have:=this xs n hx hn
  refine ⟨?_,this.2⟩
  unfold WT
  exact ⟨_,rfl,by rw [q7_];exact hl,this.1⟩
theorem auq_:∀ (fs:List Ty) (n:Nat) (ts:List T),mkOk fs=true→WTs fs ts→n+fs.length+64 * xc_ ts < 4611686018427387904→WTs fs (mkR fs n ts).2∧xc_ (mkR fs n ts).2=xc_ ts
 | [],n,ts,_,ht,_=>by
  unfold WTs at ht
  subst ht
  rw [kb_]
  refine ⟨?_,rfl⟩
  unfold WTs
  rfl
 | f :: fs,n,ts,h,ht,hn=>by
  unfold WTs at ht
  obtain ⟨t,ts',rfl,h1,h2⟩:=ht
  have hm:=ad2_ h
  simp only [zo_,List.length_cons] at hn
  have g0:=aop_ f n t hm.1 h1
  have g1:=aR3_ f n t hm.1 h1 (by omega)
  have g2:=auq_ fs (mkT f n t).1 ts' hm.2 h2 (by omega)
  rw [vs_,zo_,zo_,g1.2,g2.2]
  refine ⟨?_,rfl⟩
  unfold WTs
  exact ⟨_,_,rfl,g1.1,g2.1⟩
end
def kC_ (F:Sem1) (fs:List Ty):Prop :=
 ∀ (n:Nat) (ts:List T),WTs fs ts→xc_ ts≤1048576→n+64 * xc_ ts≤1099511627776→F ((mkR fs n ts).2++[.c (.int .i64 (n:Int))])=some [.c (.int .i64 ((mkR fs n ts).1:Int))]
def u6_ (w:Nat):List Ty→List Nat→Nat→Nat→Nat→(Nat→Nat→PL)→PL
 | [],_,_,c,p,k=>k c p
 | .b :: fs,gs,j,c,p,k =>
  .ins (.pr .bnd [.a 0,.a 4]) <| .ins (.pr (.cell w j) [.a 0,.a 4]) <| .ins (.pr (.bin .rem) [.a c,.k (.int .i64 3)]) <| .ins (.pr (.bin .eql) [.a (p+2),.k (.int .i64 0)]) <|
  .ins (.pr (.bb .neq) [.a (p+1),.a (p+3)]) <| .ite (p+4) (.ins (.pr .scl [.k (.int .i64 (-1))]) <| .ret [.a (p+5)]) <| .ins (.pr (.bin .add) [.a c,.k (.int .i64 1)]) <| u6_ w fs gs (j+1) (p+5) (p+6) k
 | .sl _ :: fs,gs,j,c,p,k =>
  .ins (.pr .bnd [.a 0,.a 4]) <| .ins (.pr (.cell w j) [.a 0,.a 4]) <| .ins (.cl (gs.headD 0) [.a (p+1),.a c] 1) <| .ins (.pr (.bin .lss) [.a (p+2),.k (.int .i64 0)]) <|
  .ite (p+3) (.ins (.pr .scl [.k (.int .i64 (-1))]) <| .ret [.a (p+4)]) <| u6_ w fs gs.tail (j+1) (p+2) (p+4) k
 | _ :: fs,gs,j,c,p,k =>
  .ins (.pr .bnd [.a 0,.a 4]) <| .ins (.pr (.cell w j) [.a 0,.a 4]) <| .ins (.pr (.bin .neq) [.a (p+1),.a c]) <| .ite (p+2) (.ins (.pr .scl [.k (.int .i64 (-1))]) <| .ret [.a (p+3)]) <|
  .ins (.pr (.bin .add) [.a c,.k (.int .i64 1)]) <| u6_ w fs gs (j+1) (p+3) (p+4) k
def aPc_ (fs:List Ty) (gs:List Nat):PL :=
 .loop [.a 1,.k (.int .i64 0),.k (.int .i64 0)] <|
  .ins (.pr .len [.a 0]) <|
  .ins (.pr (.bin .lss) [.a 4,.a 5]) <|
  .ite 6 (u6_ fs.length fs gs 0 2 7 fun c p=>.ins (.pr (.bin .add) [.a 4,.k (.int .i64 1)]) <| .go 0 [.a c,.a 3,.a p])
  (.ins (.pr .scl [.a 2]) <| .ret [.a 7])
def jW_ (S:Nat→Sem1):List Ty→List Nat→Prop
 | [],_=>True
 | .sl fs :: r,g :: gs=>kC_ (S g) [.sl fs]∧jW_ S r gs
 | .sl _ :: _,[]=>False
 | _ :: r,gs=>jW_ S r gs
theorem yP_ {ρ:List T} {n:Nat} {t:T} (h:ρ.getD n T.dft=t) (hn:n < ρ.length) (B:List T):(ρ++B).getD n T.dft=t:=by
 rw [← h]
 simp [List.getD,List.getElem?_append_left hn]
theorem qE_ {ρ B:List T} {t:T}:(ρ++t :: B).getD ρ.length T.dft=t:=by
 simp [List.getD]
theorem aDr_ (n:Nat):Prim.ev (.bin .rem) [.c (.int .i64 (n:Int)),.c (.int .i64 3)]=some (.c (.int .i64 ((n % 3:Nat):Int))):=by
 simp only [Prim.ev,T.val,binV,Option.bind_some,if_true]
 rw [if_neg (by decide)]
 simp only [Option.bind_some]
 congr 3
theorem aC2_ (a b:Nat):(((a:Int)) == (b:Int))=(a == b):=by
 rw [Bool.eq_iff_iff]
 simp only [beq_iff_eq]
 omega
set_option linter.unusedSimpArgs false
theorem xR_ {ρ:List T} {p:Nat} (hp:ρ.length=p) (m:Nat) (B:List T):(ρ++B).getD (p+m) T.dft=B.getD m T.dft:=by
 subst hp
 simp only [List.getD,List.getElem?_append_right (Nat.le_add_right _ _),Nat.add_sub_cancel_left]
theorem aIc_ {α:Type} {r:List α} {j:Nat} {t:α} {ts:List α} (h:r.drop j=t :: ts):r[j]?=some t∧r.drop (j+1)=ts:=by
 have hj:j < r.length:=by
  rcases Nat.lt_or_ge j r.length with h' | h'
  ·exact h'
  ·rw [List.drop_eq_nil_iff.2 h'] at h;cases h
 rw [List.drop_eq_getElem_cons hj] at h
 cases h
 exact ⟨List.getElem?_eq_getElem hj,rfl⟩
theorem adl_ {S:Nat→Sem1} {R:Nat} {K:List Sem1} {w i:Nat} {ys:List (List T)} {r:List T} {out:Option (List T)} (hr:ys[i]?=some r) (hw:r.length=w):∀ (fs:List Ty) (gs:List Nat) (j c p:Nat) (k:Nat→Nat→PL) (ρ:List T) (n:Nat) (ts:List T),
  jW_ S fs gs→mkOk fs=true→WTs fs ts→xc_ ts≤1048576→n+fs.length+64 * xc_ ts≤1099511627776→r.drop j=(mkR fs n ts).2→ρ.length=p→4 < p→ρ.getD 0 T.dft=.l ys→ρ.getD 4 T.dft=.c (.int .i64 (i:Int))→c < p→ρ.getD c T.dft=.c (.int .i64 (n:Int)) →
  (∀ (c' p':Nat) (B:List T),(ρ++B).length=p'→c' < p'→(ρ++B).getD c' T.dft=.c (.int .i64 ((mkR fs n ts).1:Int))→PL.den S R K (ρ++B) (k c' p')=out) →
  PL.den S R K ρ (u6_ w fs gs j c p k)=out
 | [],gs,j,c,p,k,ρ,n,ts,_,_,_,_,_,_,hp,h4,_,_,hc,hn,hk=>by
  have:=hk c p [] (by simpa using hp) hc (by simpa [kb_] using hn)
  simpa [u6_] using this
 | f :: fs,gs,j,c,p,k,ρ,n,ts,hS,hm,ht,hb,hbn,hd,hp,h4,e0,e4,hc,hn,hk=>by
  unfold WTs at ht
  obtain ⟨t,ts',rfl,ht1,ht2⟩:=ht
  have hm':=ad2_ hm
  rw [vs_] at hd
  obtain ⟨hj,hd'⟩:=aIc_ hd
  simp only [zo_,List.length_cons] at hb hbn
  have x0:∀ B,(ρ++B).getD 0 T.dft=.l ys:=fun B=>yP_ e0 (by omega) B
  have x4:∀ B,(ρ++B).getD 4 T.dft=.c (.int .i64 (i:Int)):=fun B=>yP_ e4 (by omega) B
  have xc:∀ B,(ρ++B).getD c T.dft=.c (.int .i64 (n:Int)):=fun B=>yP_ hn (by omega) B
  have xp:=xR_ hp
  have xp0:∀ B,(ρ++B).getD p T.dft=B.getD 0 T.dft:=fun B=>xp 0 B
  have cell:=aqz_ (k:=.i64) hr hw hj
  have hle:=aop_ f n t hm'.1 ht1
  have wr:IntKind.i64.wrap ((n:Int)+1)=((n+1:Nat):Int):=by rw [je_ (by omega) (by omega)];simp
  cases f with
  | i kk =>
   cases kk with
   | i64 =>
    rw [al1_] at cell
    simp only [u6_,y1_,wb_,List.map_cons,List.map_nil,ev_k,ev_a,e0,e4,hn,x0,x4,xc,xp,xp0,List.append_assoc,List.cons_append,List.nil_append,List.getD_cons_zero,List.getD_cons_succ,za_,jg_ hr,cell,afp_,bne_self_eq_false,w6_,cond_false,qj_,wr]
    refine adl_ hr hw fs gs (j+1) (p+3) (p+4) k _ (n+1) ts' (by simpa [jW_] using hS) hm'.2 ht2 (by omega) (by omega) (by rw [hd',al1_]) (by simp [hp]) (by omega) (x0 _) (x4 _) (by omega) (by rw [xp];rfl) ?_
    intro c' p' B h1 h2 h3
    rw [List.append_assoc] at h1 h3 ⊢
    refine hk c' p' _ h1 h2 ?_
    rw [h3,vs_,al1_]
   | _=>simp [uF_] at hm'
  | b =>
   rw [alv_] at cell
   have hbeq:(((n % 3:Nat):Int) == (0:Int))=(n % 3 == 0):=aC2_ (n % 3) 0
   simp only [u6_,y1_,wb_,List.map_cons,List.map_nil,ev_k,ev_a,e0,e4,hn,x0,x4,xc,xp,xp0,List.append_assoc,List.cons_append,List.nil_append,List.getD_cons_zero,List.getD_cons_succ,za_,jg_ hr,cell,aDr_,apc_,hbeq,any_,bne_self_eq_false,w6_,cond_false,qj_,wr]
   refine adl_ hr hw fs gs (j+1) (p+5) (p+6) k _ (n+1) ts' (by simpa [jW_] using hS) hm'.2 ht2 (by omega) (by omega) (by rw [hd',alv_]) (by simp [hp]) (by omega) (x0 _) (x4 _) (by omega) (by rw [xp];rfl) ?_
   intro c' p' B h1 h2 h3
   rw [List.append_assoc] at h1 h3 ⊢
   refine hk c' p' _ h1 h2 ?_
   rw [h3,vs_,alv_]
  | s=>simp [uF_] at hm'
  | sl es =>
   cases gs with
   | nil=>simp [jW_] at hS
   | cons g gs =>
    simp only [jW_] at hS
    have hcall:=hS.1 n [t] (by unfold WTs;exact ⟨t,[],rfl,ht1,by unfold WTs;rfl⟩) (by simp only [zo_,zx_];omega) (by simp only [zo_,zx_];omega)
    rw [vs_,kb_] at hcall
    simp only [List.cons_append,List.nil_append] at hcall
    have hnn:¬ (((mkT (.sl es) n t).1:Int) < 0):=by omega
    simp only [u6_,y1_,jz_,wb_,List.map_cons,List.map_nil,ev_k,ev_a,e0,e4,hn,x0,x4,xc,xp,xp0,List.append_assoc,List.cons_append,List.nil_append,List.getD_cons_zero,List.getD_cons_succ,za_,jg_ hr,cell,List.headD_cons,hcall,ym_,vu_,hnn,decide_false,w6_,cond_false]
    refine adl_ hr hw fs gs (j+1) (p+2) (p+4) k _ (mkT (.sl es) n t).1 ts' hS.2 hm'.2 ht2 (by omega) (by omega) hd' (by simp [hp]) (by omega) (x0 _) (x4 _) (by omega) (by rw [xp];rfl) ?_
    intro c' p' B h1 h2 h3
    rw [List.append_assoc] at h1 h3 ⊢
    refine hk c' p' _ h1 h2 ?_
    rw [h3,vs_]
theorem abr_ {S:Nat→Sem1} {fs:List Ty} {gs:List Nat} (hS:jW_ S fs gs) (hm:uF_ (.sl fs)=true):kC_ (fun ts=>(aPc_ fs gs).den S rounds [] ts) [.sl fs]:=by
 intro n ts ht hb hn
 obtain ⟨xs,rfl,h2,h3⟩:=ht.sl1
 have hm':=abu_ hm
 rw [zo_,zx_,z3_,Nat.add_zero] at hb hn
 have hlen:=q3_ xs
 rw [vs_,kb_,akm_]
 simp only [List.cons_append,List.nil_append,aPc_]
 rw [af8_]
 have hbt:∀ i,zH_ (xs.take i)≤zH_ xs:=by
  intro i
  have:=ajj_ (xs.take i) (xs.drop i)
  rw [List.take_append_drop] at this
  omega
 have hmono:=fun i=>aea_ (g:=mkR fs) (xs:=xs.take i) (fun m r hr=>by
  have:=af2_ fs m r hm'.2 (h3 r (List.mem_of_mem_take hr))
  omega) n
 have key:=ags_ (n:=xs.length) (out:=[T.c (.int .i64 ((ze_ (mkR fs) n xs).1:Int))]) (F:=fun self ts=>(PL.den S rounds (self :: []) ([T.l (ze_ (mkR fs) n xs).2,.c (.int .i64 (n:Int))]++ts) (
  .ins (.pr .len [.a 0]) <|
  .ins (.pr (.bin .lss) [.a 4,.a 5]) <|
  .ite 6 (u6_ fs.length fs gs 0 2 7 fun c p=>.ins (.pr (.bin .add) [.a 4,.k (.int .i64 1)]) <| .go 0 [.a c,.a 3,.a p])
  (.ins (.pr .scl [.a 2]) <| .ret [.a 7])))) (fun i=>[.c (.int .i64 ((ze_ (mkR fs) n (xs.take i)).1:Int)),.c (.int .i64 0),.c (.int .i64 (i:Int))]) ?_ ?_ rounds (by unfold rounds;omega)
 ·exact key
 ·intro i hi self
  obtain ⟨r,hr⟩:=kH_ hi
  have hwr:=h3 r (vK_ hr)
  have hbr:=kc_ hr
  have hrow:=apk_ (g:=mkR fs) n hr
  have htk:=amm_ (g:=mkR fs) hr n
  have hb1:=hbt (i+1)
  have hb2:=jA_ hr
  have hm1:=hmono i
  have hlt:(i:Int) < xs.length:=by omega
  have e3:IntKind.i64.wrap ((i:Int)+1)=((i+1:Nat):Int):=by rw [je_ (by omega) (by omega)];simp
  generalize hN:(ze_ (mkR fs) n (xs.take i)).1=N at *
  have hlw:=auq_ fs N r hm'.2 hwr (by omega)
  simp only [y1_,wb_,List.map_cons,List.map_nil,ev_k,ev_a,List.cons_append,List.nil_append,List.getD_cons_zero,List.getD_cons_succ,za_,wT_,q7_,vu_,hlt,decide_true,w6_,cond_true]
  refine adl_ hrow (by rw [hlw.1.length]) fs gs 0 2 7 _ _ N r hS hm'.2 hwr (by omega) (by omega) (by rw [List.drop_zero]) rfl (by omega) rfl rfl (by omega) rfl ?_
  intro c' p' B h1 h4 h5
  have h6:=qE_ (ρ:=[T.l (ze_ (mkR fs) n xs).2,.c (.int .i64 (n:Int)),.c (.int .i64 (N:Int)),.c (.int .i64 0),.c (.int .i64 (i:Int)),.c (.int .i64 (xs.length:Int)),.c (.bool true)]++B) (B:=[]) (t:=.c (.int .i64 ((i+1:Nat):Int)))
  rw [h1] at h6
  have h7:=yP_ h5 (by rw [h1];exact h4) [.c (.int .i64 ((i+1:Nat):Int))]
  simp only [List.cons_append,List.nil_append,List.append_assoc] at h6 h7
  simp only [y1_,qv_,List.map_cons,List.map_nil,ev_k,ev_a,List.cons_append,List.nil_append,List.append_assoc,List.getD_cons_zero,List.getD_cons_succ,za_,qj_,e3,h6,h7,htk]
 ·intro self
  have:xs.take xs.length=xs:=List.take_length
  simp only [this,uT_,y1_,wb_,List.map_cons,List.map_nil,ev_k,ev_a,List.cons_append,List.nil_append,List.getD_cons_zero,List.getD_cons_succ,za_,wT_,q7_,vu_,Int.lt_irrefl,decide_false,w6_,cond_false,adc_]
set_option linter.unusedSimpArgs false
abbrev Pt:=List (Nat × Nat × Nat)
def getV:Pt→T→Option T
 | [],t=>some t
 | (i,w,j) :: P,.l xs=>(xs[i]?).bind fun r=>if r.length=w then (r[j]?).bind fun t=>t.rows.bind fun ys=>getV P (.l ys) else none
 | _ :: _,.c _=>none
def setV:Pt→T→T→T
 | [],_,v=>v
 | (i,w,j) :: P,.l xs,v=>.l (setRow xs i j [setV P (((xs[i]?).bind (·[j]?)).getD T.dft) v])
 | _ :: _,t,_=>t
theorem qh_ {i w j:Nat} {P:Pt} {t d:T} (h:getV ((i,w,j) :: P) t=some d):∃ xs r ys,t=.l xs∧xs[i]?=some r∧r.length=w∧r[j]?=some (.l ys)∧getV P (.l ys)=some d:=by
 cases t with
 | c v=>simp [getV] at h
 | l xs =>
  simp only [getV,Option.bind_eq_some_iff] at h
  obtain ⟨r,hr,h⟩:=h
  split at h
  ·rename_i hw
   rw [Option.bind_eq_some_iff] at h
   obtain ⟨u,hu,h⟩:=h
   cases u with
   | c v=>simp [T.rows] at h
   | l ys=>exact ⟨xs,r,ys,rfl,hr,hw,hu,by simpa [T.rows] using h⟩
  ·cases h
theorem aq5_ {i w j:Nat} {P:Pt} {xs:List (List T)} {r:List T} {ys:List (List T)} {d:T} (h1:xs[i]?=some r) (h2:r.length=w) (h3:r[j]?=some (.l ys)) (h4:getV P (.l ys)=some d):getV ((i,w,j) :: P) (.l xs)=some d:=by
 simp [getV,h1,h2,h3,T.rows,h4]
theorem vg_ {xs:List (List T)} {i:Nat} {a b:List T} {t v:T} {j:Nat} (h:xs[i]?=some (a++t :: b)) (hj:a.length=j):setRow xs i j [v]=xs.set i (a++v :: b):=by
 subst hj
 unfold setRow
 apply List.ext_getElem?
 intro k
 rw [List.getElem?_modify,List.getElem?_set]
 by_cases hk:i=k
 ·subst hk
  have hi:i < xs.length:=(List.getElem?_eq_some_iff.1 h).1
  rw [h]
  simp [hi]
 ·simp [hk]
theorem anr_ {r:List T} {j:Nat} {t:T} (h:r[j]?=some t):∃ a b,r=a++t :: b∧a.length=j:=by
 obtain ⟨hj,he⟩:=List.getElem?_eq_some_iff.1 h
 refine ⟨r.take j,r.drop (j+1),?_,by simp;omega⟩
 rw [← he,← List.drop_eq_getElem_cons hj,List.take_append_drop]
theorem aD0_ {xs:List (List T)} {i:Nat} {r:List T} {t v:T} {j:Nat} (h:xs[i]?=some r) (hj:r[j]?=some t):∃ r',(setRow xs i j [v])[i]?=some r'∧r'.length=r.length∧r'[j]?=some v:=by
 obtain ⟨a,b,rfl,ha⟩:=anr_ hj
 have hi:i < xs.length:=(List.getElem?_eq_some_iff.1 h).1
 rw [vg_ h ha]
 refine ⟨a++v :: b,by simp [hi],by simp,?_⟩
 subst ha
 simp
theorem ab2_:∀ {P:Pt} {t d:T} {v:List (List T)},getV P t=some d→getV P (setV P t (.l v))=some (.l v)
 | [],t,d,v,_=>rfl
 | (i,w,j) :: P,t,d,v,h=>by
  obtain ⟨xs,r,ys,rfl,h1,h2,h3,h4⟩:=qh_ h
  have ih:=ab2_ (v:=v) h4
  have e:((xs[i]?).bind (·[j]?)).getD T.dft=.l ys:=by simp [h1,h3]
  simp only [setV,e]
  cases hs:setV P (.l ys) (.l v) with
  | c u=>rw [hs] at ih;cases P with
   | nil=>simp [getV] at ih
   | cons q P=>obtain ⟨q1,q2,q3⟩:=q;simp [getV] at ih
  | l zs =>
   obtain ⟨r',g1,g2,g3⟩:=aD0_ (v:=.l zs) h1 h3
   rw [hs] at ih
   exact aq5_ g1 (by rw [g2,h2]) g3 ih
theorem ann_:∀ {P:Pt} {t d:T} {v:List (List T)} {v':T},getV P t=some d→setV P (setV P t (.l v)) v'=setV P t v'
 | [],t,d,v,v',_=>rfl
 | (i,w,j) :: P,t,d,v,v',h=>by
  obtain ⟨xs,r,ys,rfl,h1,h2,h3,h4⟩:=qh_ h
  have ih:=ann_ (v:=v) (v':=v') h4
  have e:((xs[i]?).bind (·[j]?)).getD T.dft=.l ys:=by simp [h1,h3]
  obtain ⟨a,b,rfl,ha⟩:=anr_ h3
  have hi:i < xs.length:=(List.getElem?_eq_some_iff.1 h1).1
  have e2:∀ u:T,(((setRow xs i j [u])[i]?).bind (·[j]?)).getD T.dft=u:=by
   intro u
   rw [vg_ h1 ha]
   subst ha
   simp [hi]
  simp only [setV,e,e2,ih]
  congr 1
  have g1:(xs.set i (a++setV P (.l ys) (.l v) :: b))[i]?=some (a++setV P (.l ys) (.l v) :: b):=by simp [hi]
  rw [vg_ h1 ha,vg_ h1 ha,vg_ g1 ha,List.set_set]
theorem ayu_ {xs:List (List T)} {i:Nat} {r:List T} (h:xs[i]?=some r):xs.set i r=xs:=by
 apply List.ext_getElem?
 intro k
 rw [List.getElem?_set]
 by_cases hk:i=k
 ·subst hk
  have hi:i < xs.length:=(List.getElem?_eq_some_iff.1 h).1
  simp [hi,h.symm]
 ·simp [hk]
theorem ald_:∀ {P:Pt} {t d:T},getV P t=some d→setV P t d=t
 | [],t,d,h=>by simp only [getV,Option.some.injEq] at h;exact h.symm
 | (i,w,j) :: P,t,d,h=>by
  obtain ⟨xs,r,ys,rfl,h1,h2,h3,h4⟩:=qh_ h
  have ih:=ald_ h4
  have e:((xs[i]?).bind (·[j]?)).getD T.dft=.l ys:=by simp [h1,h3]
  obtain ⟨a,b,rfl,ha⟩:=anr_ h3
  simp only [setV,e,ih]
  rw [vg_ h1 ha,ayu_ h1]
theorem am1_:∀ {P Q:Pt} {t:T},getV (P++Q) t=(getV P t).bind (getV Q)
 | [],Q,t=>rfl
 | (i,w,j) :: P,Q,.c v=>by simp [getV]
 | (i,w,j) :: P,Q,.l xs=>by
  simp only [List.cons_append,getV]
  cases xs[i]? with
  | none=>rfl
  | some r =>
   simp only [Option.bind_some]
   split
   ·cases r[j]? with
    | none=>rfl
    | some u =>
     simp only [Option.bind_some]
     cases u with
     | c v=>rfl
     | l ys=>simp only [T.rows,Option.bind_some];exact am1_
   ·rfl
theorem amx_:∀ {P Q:Pt} {t d v:T},getV P t=some d→setV (P++Q) t v=setV P t (setV Q d v)
 | [],Q,t,d,v,h=>by simp only [getV,Option.some.injEq] at h;subst h;rfl
 | (i,w,j) :: P,Q,t,d,v,h=>by
  obtain ⟨xs,r,ys,rfl,h1,h2,h3,h4⟩:=qh_ h
  have e:((xs[i]?).bind (·[j]?)).getD T.dft=.l ys:=by simp [h1,h3]
  simp only [List.cons_append,setV,e,amx_ h4]
def PathOk (ρ:List T):Pt→Pt→Prop
 | [],[]=>True
 | (a,w,j) :: P,(i,w',j') :: Q=>w=w'∧j=j'∧a < ρ.length∧ρ.getD a T.dft=.c (.int .i64 (i:Int))∧PathOk ρ P Q
 | _,_=>False
theorem PathOk.ext {ρ:List T} (B:List T):∀ {P Q:Pt},PathOk ρ P Q→PathOk (ρ++B) P Q
 | [],[],_=>trivial
 | (a,w,j) :: P,(i,w',j') :: Q,⟨h1,h2,h3,h4,h5⟩=>⟨h1,h2,by simp;omega,yP_ h4 h3 B,PathOk.ext B h5⟩
 | [],_ :: _,h=>h.elim
 | (_,_,_) :: _,[],h=>h.elim
theorem PathOk.snoc {ρ:List T} {a i w j:Nat} (h1:a < ρ.length) (h2:ρ.getD a T.dft=.c (.int .i64 (i:Int))):∀ {P Q:Pt},PathOk ρ P Q→PathOk ρ (P++[(a,w,j)]) (Q++[(i,w,j)])
 | [],[],_=>⟨rfl,rfl,h1,h2,trivial⟩
 | (a',w',j') :: P,(i',w'',j'') :: Q,⟨g1,g2,g3,g4,g5⟩=>⟨g1,g2,g3,g4,PathOk.snoc h1 h2 g5⟩
 | [],_ :: _,h=>h.elim
 | (_,_,_) :: _,[],h=>h.elim
def kZ_:Pt→Nat→Nat→(Nat→Nat→PL)→PL
 | [],s,p,k=>k s p
 | (a,w,j) :: P,s,p,k=>.ins (.pr (.dig w j) [.a s,.a a]) (kZ_ P p (p+1) k)
def abm_:Pt→Nat→Nat→Nat→Nat→(Nat→Nat→PL)→PL
 | [],_,_,v,p,k=>k v p
 | (a,w,j) :: P,e,e',v,p,k=>abm_ P e' (e'+1) v p fun v' p'=>.ins (.pr (.bury w j) [.a e,.a a,.a v']) (k p' (p'+1))
theorem aKx_ {xs:List (List T)} {i w j:Nat} {r:List T} {ys:List (List T)} (h:xs[i]?=some r) (hw:r.length=w) (hj:r[j]?=some (.l ys)):Prim.ev (.dig w j) [.l xs,.c (.int .i64 (i:Int))]=some (.l ys):=by
 simp [Prim.ev,acs_ h,hw,hj,T.rows]
theorem aQk_ {xs:List (List T)} {i w j:Nat} {r:List T} {v:T} (h:xs[i]?=some r) (hw:r.length=w) (hj:j < w):Prim.ev (.bury w j) [.l xs,.c (.int .i64 (i:Int)),v]=some (.l (setRow xs i j [v])):=by
 simp [Prim.ev,acs_ h,hw,hj,T.rows,T.int]
def yS_:Pt→T→List T
 | [],_=>[]
 | (i,w,j) :: P,t=>match getV [(i,w,j)] t with
  | some u=>u :: yS_ P u
  | none=>[]
theorem aid_ {i w j:Nat} {P:Pt} {xs:List (List T)} {r:List T} {ys:List (List T)} (h1:xs[i]?=some r) (h2:r.length=w) (h3:r[j]?=some (.l ys)):yS_ ((i,w,j) :: P) (.l xs)=.l ys :: yS_ P (.l ys):=by
 simp only [yS_,aq5_ h1 h2 h3 (P:=[]) rfl]
section
variable {S:Nat→Sem1} {R:Nat} {K:List Sem1} {out:Option (List T)}
theorem jQ_:∀ {P Q:Pt} {s p:Nat} {k:Nat→Nat→PL} {ρ:List T} {t d:T},PathOk ρ P Q→getV Q t=some d→ρ.length=p→s < p→ρ.getD s T.dft=t →
  (∀ e,(yS_ Q t).length=P.length→e < p+P.length→(ρ++yS_ Q t).getD e T.dft=d→PL.den S R K (ρ++yS_ Q t) (k e (p+P.length))=out)→PL.den S R K ρ (kZ_ P s p k)=out
 | [],[],s,p,k,ρ,t,d,_,hg,hp,hs,ht,hk=>by
  simp only [getV,Option.some.injEq] at hg
  subst hg
  have:=hk s rfl (by simpa using hs) (by simpa [yS_] using ht)
  simpa [yS_,kZ_] using this
 | (a,w,j) :: P,(i,w',j') :: Q,s,p,k,ρ,t,d,⟨z1,z2,h3,h4,h5⟩,hg,hp,hs,ht,hk=>by
  subst z1 z2
  obtain ⟨xs,r,ys,rfl,g1,g2,g3,g4⟩:=qh_ hg
  rw [aid_ g1 g2 g3] at hk
  simp only [kZ_,y1_,List.map_cons,List.map_nil,ev_a,ht,h4,aKx_ g1 g2 g3,za_]
  refine jQ_ (PathOk.ext _ h5) g4 (by simp [hp]) (by omega) (by rw [← hp];exact qE_) fun e he1 he2 he3=>?_
  rw [List.append_assoc] at he3 ⊢
  have:=hk e (by simp [he1]) (by simp;omega) he3
  simpa [Nat.add_assoc,Nat.add_comm 1] using this
 | [],_ :: _,_,_,_,_,_,_,h,_,_,_,_,_=>h.elim
 | (_,_,_) :: _,[],_,_,_,_,_,_,h,_,_,_,_,_=>h.elim
theorem asp_:∀ {P Q:Pt} {e e' v p:Nat} {k:Nat→Nat→PL} {ρ:List T} {t d vv:T},PathOk ρ P Q→getV Q t=some d→ρ.length=p→e < p→ρ.getD e T.dft=t→(∀ m x,(yS_ Q t)[m]?=some x→e'+m < p∧ρ.getD (e'+m) T.dft=x)→v < p→ρ.getD v T.dft=vv →
  (∀ (B:List T) (v' p':Nat),(ρ++B).length=p'→v' < p'→(ρ++B).getD v' T.dft=setV Q t vv→PL.den S R K (ρ++B) (k v' p')=out)→PL.den S R K ρ (abm_ P e e' v p k)=out
 | [],[],e,e',v,p,k,ρ,t,d,vv,_,hg,hp,he,ht,hc,hv,hvv,hk=>by
  have:=hk [] v p (by simpa using hp) hv (by simpa [setV] using hvv)
  simpa [abm_] using this
 | (a,w,j) :: P,(i,w',j') :: Q,e,e',v,p,k,ρ,t,d,vv,⟨z1,z2,h3,h4,h5⟩,hg,hp,he,ht,hc,hv,hvv,hk=>by
  subst z1 z2
  obtain ⟨xs,r,ys,rfl,g1,g2,g3,g4⟩:=qh_ hg
  rw [aid_ g1 g2 g3] at hc
  have c0:=hc 0 _ rfl
  have hjw:j < w:=by rw [← g2];exact (List.getElem?_eq_some_iff.1 g3).1
  rw [show abm_ ((a,w,j) :: P) e e' v p k=abm_ P e' (e'+1) v p (fun v' p'=>.ins (.pr (.bury w j) [.a e,.a a,.a v']) (k p' (p'+1))) from rfl]
  refine asp_ h5 g4 hp c0.1 c0.2 (fun m x hm=>?_) hv hvv fun B v' p' q1 q2 q3=>?_
  ·have:=hc (m+1) x (by simpa using hm)
   rw [show e'+1+m=e'+(m+1) by omega]
   exact this
  ·have x1:=yP_ ht (by omega) B
   have x2:=yP_ h4 h3 B
   simp only [y1_,List.map_cons,List.map_nil,ev_a,x1,x2,q3,aQk_ g1 g2 hjw,za_]
   rw [List.append_assoc]
   have e0:((xs[i]?).bind (·[j]?)).getD T.dft=.l ys:=by simp [g1,g3]
   refine hk _ p' (p'+1) (by simp at q1 ⊢;omega) (by omega) ?_
   rw [← List.append_assoc,← q1,qE_]
   simp only [setV,e0]
 | [],_ :: _,_,_,_,_,_,_,_,_,_,h,_,_,_,_,_,_,_,_=>h.elim
 | (_,_,_) :: _,[],_,_,_,_,_,_,_,_,_,h,_,_,_,_,_,_,_,_=>h.elim
def putP (P:Pt) (k w j s v p:Nat) (cont:Nat→Nat→PL):PL :=
 kZ_ P s p fun d p1=>.ins (.pr .bnd [.a d,.a k]) <| kZ_ P s (p1+1) fun d2 p2=>.ins (.pr (.put true w j 1) [.a d2,.a k,.a v]) <|
  match P with
  | []=>cont p2 (p2+1)
  | _ :: _=>kZ_ P s (p2+1) fun _ p3=>abm_ P s (p2+1) p2 p3 cont
theorem aLa_ {P Q:Pt} {k w j s v p kv:Nat} {cont:Nat→Nat→PL} {ρ:List T} {t vv:T} {xs:List (List T)} {r:List T} (hP:PathOk ρ P Q) (hg:getV Q t=some (.l xs)) (hp:ρ.length=p) (hs:s < p) (ht:ρ.getD s T.dft=t)
  (hkp:k < p) (hk:ρ.getD k T.dft=.c (.int .i64 (kv:Int))) (hv:v < p) (hvv:ρ.getD v T.dft=vv) (hsc:scal vv=true) (hr:xs[kv]?=some r) (hw:r.length=w) (hj:j < w)
  (hc:∀ (B:List T) (s' p':Nat),(ρ++B).length=p'→s' < p'→(ρ++B).getD s' T.dft=setV Q t (.l (setRow xs kv j [vv]))→PL.den S R K (ρ++B) (cont s' p')=out):PL.den S R K ρ (putP P k w j s v p cont)=out:=by
 have hput:=au7_ (sc:=true) (k:=.i64) (off:=j) (n:=1) (vs:=[vv]) hr hw (by omega) rfl (by simp [hsc])
 unfold putP
 refine jQ_ hP hg hp hs ht fun e a1 a2 a3=>?_
 have l1:(ρ++yS_ Q t).length=p+P.length:=by simp [hp,a1]
 simp only [y1_,List.map_cons,List.map_nil,ev_a,a3,yP_ hk (by omega) _,jg_ hr,za_,List.append_assoc]
 refine jQ_ (PathOk.ext _ hP) hg (by simp [hp,a1];omega) (by omega) (yP_ ht (by omega) _) fun e2 b1 b2 b3=>?_
 simp only [List.append_assoc] at b3 ⊢
 simp only [y1_,List.map_cons,List.map_nil,ev_a,b3,yP_ hk (by omega) _,yP_ hvv (by omega) _,hput,za_,List.append_assoc]
 cases P with
 | nil =>
  cases Q with
  | cons _ _=>exact hP.elim
  | nil =>
   simp only [getV,Option.some.injEq] at hg
   refine hc _ _ _ (by simp [hp,yS_]) (by simp) ?_
   simp only [yS_,List.nil_append,List.length_nil,Nat.add_zero,List.cons_append]
   rw [show p+1=p+1 from rfl,xR_ hp]
   rfl
 | cons q P =>
  simp only
  refine jQ_ (PathOk.ext _ hP) hg (by simp [hp,a1];omega) (by omega) (yP_ ht (by omega) _) fun e3 c1 c2 c3=>?_
  simp only [List.append_assoc] at c3 ⊢
  have l3:(ρ++(yS_ Q t++([T.c (.bool true)]++(yS_ Q t++([T.l (setRow xs kv j [vv])]++yS_ Q t))))).length=p+(q :: P).length+1+(q :: P).length+1+(q :: P).length:=by simp [hp,a1];omega
  refine asp_ (PathOk.ext _ hP) hg l3 (by omega) (yP_ ht (by omega) _) (fun m x hm=>?_) (by omega) (vv:=.l (setRow xs kv j [vv])) ?_ fun B s' p' d1 d2 d3=>?_
  ·have hml:m < (yS_ Q t).length:=(List.getElem?_eq_some_iff.1 hm).1
   refine ⟨by omega,?_⟩
   have:=xR_ (ρ:=ρ++(yS_ Q t++([T.c (.bool true)]++(yS_ Q t++[T.l (setRow xs kv j [vv])])))) (p:=p+(q :: P).length+1+(q :: P).length+1) (by simp [hp,a1];omega) m (yS_ Q t)
   simp only [List.append_assoc] at this
   rw [this]
   simp [List.getD,hm]
  ·have:=xR_ (ρ:=ρ++(yS_ Q t++([T.c (.bool true)]++yS_ Q t))) (p:=p+(q :: P).length+1+(q :: P).length) (by simp [hp,a1];omega) 0 ([T.l (setRow xs kv j [vv])]++yS_ Q t)
   simp only [List.append_assoc,Nat.add_zero] at this
   rw [this]
   rfl
  ·rw [List.append_assoc] at d1 d3 ⊢
   exact hc _ s' p' d1 d2 d3
end
set_option linter.unusedSimpArgs false
abbrev Flds:=Pt→Nat→Nat→Nat→Nat→Nat→(Nat→Nat→Nat→Nat→PL)→PL
def lvP (flds:Flds) (P:Pt) (cl:Lf) (s p:Nat) (cont:Nat→Nat→Nat→PL):PL :=
 .loop [cl,.k (.int .i64 0),.a s] (kZ_ P (p+2) (p+3) fun d p1=>.ins (.pr .len [.a d]) <| .ins (.pr (.bin .lss) [.a (p+1),.a p1]) <|
  .ite (p1+1) (flds P (p+1) (p+2) p (p1+2) 0 fun s c p' q=>.ins (.pr (.bin .add) [.a (p+1),.k (.int .i64 1)]) <| .go q [.a c,.a p',.a s]) (cont p (p+2) (p1+2)))
mutual
def apg_:Ty→Nat→Nat→Flds
 | .i _,w,j,P,k,s,c,p,q,cont=>putP P k w j s c p fun s' p'=>.ins (.pr (.bin .add) [.a c,.k (.int .i64 1)]) (cont s' p' (p'+1) q)
 | .b,w,j,P,k,s,c,p,q,cont=>.ins (.pr (.bin .rem) [.a c,.k (.int .i64 3)]) <| .ins (.pr (.bin .eql) [.a p,.k (.int .i64 0)]) <|
   putP P k w j s (p+1) (p+2) fun s' p'=>.ins (.pr (.bin .add) [.a c,.k (.int .i64 1)]) (cont s' p' (p'+1) q)
 | .s,w,j,P,k,s,c,p,q,cont=>cont s c p q
 | .sl es,w,j,P,k,s,c,p,q,cont=>kZ_ P s p fun d p1=>.ins (.pr .bnd [.a d,.a k]) <| kZ_ P s (p1+1) fun d2 p2=>.ins (.pr (.dig w j) [.a d2,.a k]) <|
   lvP (qO_ es es.length 0) (P++[(k,w,j)]) (.a c) s (p2+1) fun c' s' p'=>cont s' c' p' (q+1)
def qO_:List Ty→Nat→Nat→Flds
 | [],w,j,P,k,s,c,p,q,cont=>cont s c p q
 | f :: fs,w,j,P,k,s,c,p,q,cont=>apg_ f w j P k s c p q fun s' c' p' q'=>qO_ fs w (j+1) P k s' c' p' q' cont
end
def FOk (S:Nat→Sem1) (w:Nat) (fs:List Ty) (j:Nat) (flds:Flds):Prop :=
 ∀ (out:Option (List T)) (K:List Sem1) (P Q:Pt) (k s c p q kv n:Nat) (cont:Nat→Nat→Nat→Nat→PL) (ρ:List T) (t:T) (xs:List (List T)) (dn ts:List T),PathOk ρ P Q→getV Q t=some (.l xs)→ρ.length=p→s < p→ρ.getD s T.dft=t →
  k < p→ρ.getD k T.dft=.c (.int .i64 (kv:Int))→c < p→ρ.getD c T.dft=.c (.int .i64 (n:Int))→xs[kv]?=some (dn++ts)→dn.length=j→(dn++ts).length=w→WTs fs ts→xc_ ts≤1048576→n+fs.length+64 * xc_ ts≤1099511627776 →
  (∀ (Ks:List Sem1) (B:List T) (s' c' p':Nat),(ρ++B).length=p'→s' < p'→c' < p'→(ρ++B).getD c' T.dft=.c (.int .i64 ((mkR fs n ts).1:Int))→(ρ++B).getD s' T.dft=setV Q t (.l (xs.set kv (dn++(mkR fs n ts).2))) →
   PL.den S rounds (Ks++K) (ρ++B) (cont s' c' p' (q+Ks.length))=out)→PL.den S rounds K ρ (flds P k s c p q cont)=out
theorem aDk_ {S:Nat→Sem1} {R:Nat} {f:Sem1} {K:List Sem1} {ρ:List T} (xs:List Lf):∀ Ks:List Sem1,PL.den S R (Ks++f :: K) ρ (.go Ks.length xs)=f (xs.map (Lf.ev ρ))
 | []=>by simp only [List.nil_append,List.length_nil,qv_]
 | g :: Ks=>by simp only [List.cons_append,List.length_cons,aH5_];exact aDk_ xs Ks
theorem aJz_ {S:Nat→Sem1} {out:Option (List T)} {K:List Sem1} {es:List Ty} {flds:Flds} (hF:FOk S es.length es 0 flds) (hl:es.length≤64) (hm:mkOk es=true) {P Q:Pt} {cl:Lf} {s p n:Nat} {cont:Nat→Nat→Nat→PL} {ρ:List T} {t:T} {xs:List (List T)}
  (hP:PathOk ρ P Q) (hg:getV Q t=some (.l xs)) (hp:ρ.length=p) (hs:s < p) (ht:ρ.getD s T.dft=t) (hc:Lf.ev ρ cl=.c (.int .i64 (n:Int))) (hw:∀ r∈xs,WTs es r) (hb:zH_ xs≤1048576) (hn:n+64 * zH_ xs≤1099511627776)
  (hk:∀ f:Sem1,PL.den S rounds (f :: K) (ρ++([T.c (.int .i64 ((ze_ (mkR es) n xs).1:Int)),T.c (.int .i64 (xs.length:Int)),setV Q t (.l (ze_ (mkR es) n xs).2)]++(yS_ Q (setV Q t (.l (ze_ (mkR es) n xs).2))++[T.c (.int .i64 (xs.length:Int)),T.c (.bool false)])))
   (cont p (p+2) (p+3+P.length+2))=out):PL.den S rounds K ρ (lvP flds P cl s p cont)=out:=by
 have hlen:=q3_ xs
 have hbt:∀ i,zH_ (xs.take i)≤zH_ xs:=by
  intro i
  have:=ajj_ (xs.take i) (xs.drop i)
  rw [List.take_append_drop] at this
  omega
 have hmono:=fun i=>aea_ (g:=mkR es) (xs:=xs.take i) (fun m r hr=>by
  have:=af2_ es m r hm (hw r (List.mem_of_mem_take hr))
  omega) n
 unfold lvP
 rw [af8_]
 simp only [List.map_cons,List.map_nil,hc,ev_k,ev_a,ht]
 have hstep:∀ i,(ze_ (mkR es) n (xs.take i)).2.length=(xs.take i).length:=fun i=>q7_ _ _
 refine aMd_ (n:=xs.length) (Inv:=fun i x=>x=[T.c (.int .i64 ((ze_ (mkR es) n (xs.take i)).1:Int)),T.c (.int .i64 (i:Int)),setV Q t (.l ((ze_ (mkR es) n (xs.take i)).2++xs.drop i))]) (Q:=fun o=>o=out) ?_ ?_ ?_ (by unfold rounds;omega)
 ·rintro i x hi rfl self
  left
  refine ⟨_,rfl,?_⟩
  obtain ⟨r,hr⟩:=kH_ hi
  have hwr:=hw r (vK_ hr)
  have hbr:=kc_ hr
  have hb1:=hbt (i+1)
  have hb2:=jA_ hr
  have hm1:=hmono i
  have htk:=amm_ (g:=mkR es) hr n
  have hsi:=hstep i
  have hil:(xs.take i).length=i:=by simp;omega
  have hlt:(i:Int) < xs.length:=by omega
  have e3:IntKind.i64.wrap ((i:Int)+1)=((i+1:Nat):Int):=by rw [je_ (by omega) (by omega)];simp
  generalize hN:(ze_ (mkR es) n (xs.take i)).1=N at *
  generalize hA:(ze_ (mkR es) n (xs.take i)).2=A at *
  have hdr:xs.drop i=r :: xs.drop (i+1):=by
   rw [List.drop_eq_getElem_cons hi]
   rw [List.getElem?_eq_getElem hi] at hr
   cases hr
   rfl
  have hgi:=ab2_ (v:=A++xs.drop i) hg
  have hri:(A++xs.drop i)[i]?=some r:=by
   rw [List.getElem?_append_right (by omega),hdr,hsi,hil,Nat.sub_self]
   rfl
  have hll:(A++xs.drop i).length=xs.length:=by simp;omega
  refine jQ_ (PathOk.ext _ hP) hgi (s:=p+2) (p:=p+3) (by simp [hp]) (by omega) (by rw [xR_ hp];rfl) fun d a1 a2 a3=>?_
  have hp1:(ρ++[T.c (.int .i64 (N:Int)),T.c (.int .i64 (i:Int)),setV Q t (.l (A++xs.drop i))]++yS_ Q (setV Q t (.l (A++xs.drop i)))).length=p+3+P.length:=by simp [hp,a1];omega
  have x1:∀ B,(ρ++[T.c (.int .i64 (N:Int)),T.c (.int .i64 (i:Int)),setV Q t (.l (A++xs.drop i))]++yS_ Q (setV Q t (.l (A++xs.drop i)))++B).getD (p+1) T.dft=.c (.int .i64 (i:Int)):=fun B=>by
   rw [List.append_assoc,List.append_assoc,xR_ hp];rfl
  have x0:∀ B,(ρ++[T.c (.int .i64 (N:Int)),T.c (.int .i64 (i:Int)),setV Q t (.l (A++xs.drop i))]++yS_ Q (setV Q t (.l (A++xs.drop i)))++B).getD p T.dft=.c (.int .i64 (N:Int)):=fun B=>by
   have:=xR_ hp 0 ([T.c (.int .i64 (N:Int)),T.c (.int .i64 (i:Int)),setV Q t (.l (A++xs.drop i))]++(yS_ Q (setV Q t (.l (A++xs.drop i)))++B))
   rw [List.append_assoc,List.append_assoc];exact this
  have x2:∀ B,(ρ++[T.c (.int .i64 (N:Int)),T.c (.int .i64 (i:Int)),setV Q t (.l (A++xs.drop i))]++yS_ Q (setV Q t (.l (A++xs.drop i)))++B).getD (p+2) T.dft=setV Q t (.l (A++xs.drop i)):=fun B=>by
   rw [List.append_assoc,List.append_assoc,xR_ hp];rfl
  have hPx:∀ B,PathOk (ρ++[T.c (.int .i64 (N:Int)),T.c (.int .i64 (i:Int)),setV Q t (.l (A++xs.drop i))]++yS_ Q (setV Q t (.l (A++xs.drop i)))++B) P Q:=fun B=>by
   rw [List.append_assoc,List.append_assoc];exact PathOk.ext _ hP
  generalize hρ:ρ++[T.c (.int .i64 (N:Int)),T.c (.int .i64 (i:Int)),setV Q t (.l (A++xs.drop i))]++yS_ Q (setV Q t (.l (A++xs.drop i)))=ρ1 at *
  have y1:=x1 [T.c (.int .i64 (xs.length:Int))]
  have y2:(ρ1++[T.c (.int .i64 (xs.length:Int))]).getD (p+3+P.length) T.dft=.c (.int .i64 (xs.length:Int)):=by rw [← hp1];exact qE_
  have y3:(ρ1++[T.c (.int .i64 (xs.length:Int)),T.c (.bool true)]).getD (p+3+P.length+1) T.dft=.c (.bool true):=by rw [xR_ hp1];rfl
  simp only [y1_,wb_,List.map_cons,List.map_nil,ev_a,a3,wT_,hll,za_,y1,y2,vu_,hlt,decide_true,List.append_assoc,List.cons_append,List.nil_append,y3,w6_,cond_true]
  refine hF _ (self :: K) P Q (p+1) (p+2) p (p+3+P.length+2) 0 i N _ _ _ (A++xs.drop i) [] r (hPx _) hgi (by simp only [List.length_append,hp1,List.length_cons,List.length_nil]) (by omega) (x2 _) (by omega) (x1 _) (by omega) (x0 _) hri rfl hwr.length hwr (by omega) (by omega) ?_
  intro Ks B s' c' p' q1 q2 q3 q4 q5
  have z1:(ρ1++([T.c (.int .i64 (xs.length:Int)),T.c (.bool true)]++B)).getD (p+1) T.dft=.c (.int .i64 (i:Int)):=x1 _
  rw [List.append_assoc] at q1 q4 q5 ⊢
  have z2:((ρ1++([T.c (.int .i64 (xs.length:Int)),T.c (.bool true)]++B))++[T.c (.int .i64 ((i+1:Nat):Int))]).getD p' T.dft=.c (.int .i64 ((i+1:Nat):Int)):=by rw [← q1];exact qE_
  have z3:=yP_ q4 (by rw [q1];exact q3) [T.c (.int .i64 ((i+1:Nat):Int))]
  have z4:=yP_ q5 (by rw [q1];exact q2) [T.c (.int .i64 ((i+1:Nat):Int))]
  rw [y1_]
  simp only [List.map_cons,List.map_nil,ev_a,ev_k,z1,qj_,e3,za_,Nat.zero_add]
  rw [aDk_]
  simp only [List.map_cons,List.map_nil,ev_a,z2,z3,z4]
  rw [htk]
  congr 4
  rw [ann_ hg]
  congr 2
  rw [hdr,List.set_append_right _ _ (by omega),hsi,hil,Nat.sub_self]
  simp
 ·rintro x rfl self
  rw [show xs.take xs.length=xs from List.take_length,show xs.drop xs.length=[] from List.drop_length,List.append_nil]
  have hgi:=ab2_ (v:=(ze_ (mkR es) n xs).2) hg
  refine jQ_ (PathOk.ext _ hP) hgi (s:=p+2) (p:=p+3) (by simp [hp]) (by omega) (by rw [xR_ hp];rfl) fun d a1 a2 a3=>?_
  have hp1:(ρ++[T.c (.int .i64 ((ze_ (mkR es) n xs).1:Int)),T.c (.int .i64 (xs.length:Int)),setV Q t (.l (ze_ (mkR es) n xs).2)]++yS_ Q (setV Q t (.l (ze_ (mkR es) n xs).2))).length=p+3+P.length:=by simp [hp,a1];omega
  have x1:∀ B,(ρ++[T.c (.int .i64 ((ze_ (mkR es) n xs).1:Int)),T.c (.int .i64 (xs.length:Int)),setV Q t (.l (ze_ (mkR es) n xs).2)]++yS_ Q (setV Q t (.l (ze_ (mkR es) n xs).2))++B).getD (p+1) T.dft=.c (.int .i64 (xs.length:Int)):=fun B=>by
   rw [List.append_assoc,List.append_assoc,xR_ hp];rfl
  have x0:∀ B,(ρ++([T.c (.int .i64 ((ze_ (mkR es) n xs).1:Int)),T.c (.int .i64 (xs.length:Int)),setV Q t (.l (ze_ (mkR es) n xs).2)]++(yS_ Q (setV Q t (.l (ze_ (mkR es) n xs).2))++B))).getD p T.dft=.c (.int .i64 ((ze_ (mkR es) n xs).1:Int)):=fun B=>xR_ hp 0 _
  have x2:∀ B,(ρ++([T.c (.int .i64 ((ze_ (mkR es) n xs).1:Int)),T.c (.int .i64 (xs.length:Int)),setV Q t (.l (ze_ (mkR es) n xs).2)]++(yS_ Q (setV Q t (.l (ze_ (mkR es) n xs).2))++B))).getD (p+2) T.dft=setV Q t (.l (ze_ (mkR es) n xs).2):=fun B=>by
   rw [xR_ hp];rfl
  have y1:=x1 [T.c (.int .i64 (xs.length:Int))]
  have y2:(ρ++[T.c (.int .i64 ((ze_ (mkR es) n xs).1:Int)),T.c (.int .i64 (xs.length:Int)),setV Q t (.l (ze_ (mkR es) n xs).2)]++yS_ Q (setV Q t (.l (ze_ (mkR es) n xs).2))++[T.c (.int .i64 (xs.length:Int))]).getD (p+3+P.length) T.dft=.c (.int .i64 (xs.length:Int)):=by rw [← hp1];exact qE_
  have y3:(ρ++[T.c (.int .i64 ((ze_ (mkR es) n xs).1:Int)),T.c (.int .i64 (xs.length:Int)),setV Q t (.l (ze_ (mkR es) n xs).2)]++yS_ Q (setV Q t (.l (ze_ (mkR es) n xs).2))++[T.c (.int .i64 (xs.length:Int)),T.c (.bool false)]).getD (p+3+P.length+1) T.dft=.c (.bool false):=by rw [xR_ hp1];rfl
  rw [y1_]
  simp only [List.map_cons,List.map_nil,ev_a,a3,wT_,q7_,za_]
  rw [y1_]
  simp only [List.map_cons,List.map_nil,ev_a,y1,y2,vu_,Int.lt_irrefl,decide_false,za_]
  rw [wb_,List.append_assoc _ [_] [_]]
  simp only [List.cons_append,List.nil_append] at y3 ⊢
  rw [y3]
  simp only [w6_,cond_false]
  have:=hk self
  simpa using this
 ·rw [List.take_zero,List.drop_zero]
  simp only [ze_,List.nil_append,ald_ hg]
  rfl
theorem aSv_ {S:Nat→Sem1} {out:Option (List T)} {K:List Sem1} {es:List Ty} {flds:Flds} (hF:FOk S es.length es 0 flds) (hl:es.length≤64) (hm:mkOk es=true) {P Q:Pt} {cl:Lf} {s p n:Nat} {cont:Nat→Nat→Nat→PL} {ρ:List T} {t:T} {xs:List (List T)}
  (hP:PathOk ρ P Q) (hg:getV Q t=some (.l xs)) (hp:ρ.length=p) (hs:s < p) (ht:ρ.getD s T.dft=t) (hc:Lf.ev ρ cl=.c (.int .i64 (n:Int))) (hw:∀ r∈xs,WTs es r) (hb:zH_ xs≤1048576) (hn:n+64 * zH_ xs≤1099511627776)
  (hk:∀ (f:Sem1) (B:List T) (c' s' p':Nat),(ρ++B).length=p'→c' < p'→s' < p'→(ρ++B).getD c' T.dft=.c (.int .i64 ((ze_ (mkR es) n xs).1:Int))→(ρ++B).getD s' T.dft=setV Q t (.l (ze_ (mkR es) n xs).2) →
   PL.den S rounds (f :: K) (ρ++B) (cont c' s' p')=out):PL.den S rounds K ρ (lvP flds P cl s p cont)=out:=by
 refine aJz_ hF hl hm hP hg hp hs ht hc hw hb hn fun f=>?_
 have hPQ:∀ {P Q:Pt} {t d:T},PathOk ρ P Q→getV Q t=some d→(yS_ Q t).length=P.length:=by
  intro P
  induction P with
  | nil=>intro Q t d hP hg;cases Q with
   | nil=>rfl
   | cons _ _=>exact hP.elim
  | cons q P ih =>
   intro Q t d hP hg
   obtain ⟨a,w,j⟩:=q
   cases Q with
   | nil=>exact hP.elim
   | cons q Q =>
    obtain ⟨i,w',j'⟩:=q
    obtain ⟨_,_,_,_,h5⟩:=hP
    obtain ⟨xs,r,ys,rfl,g1,g2,g3,g4⟩:=qh_ hg
    rw [aid_ g1 g2 g3,List.length_cons,List.length_cons,ih h5 g4]
 have hcl:=hPQ hP (ab2_ (v:=(ze_ (mkR es) n xs).2) hg)
 refine hk f _ _ _ _ (by simp [hp,hcl];omega) (by omega) (by omega) ?_ ?_
 ·exact xR_ hp 0 _
 ·rw [xR_ hp];rfl
theorem ac6_ {S:Nat→Sem1} {out:Option (List T)} {K:List Sem1} {es:List Ty} {flds:Flds} (hF:FOk S es.length es 0 flds) (hl:es.length≤64) (hm:mkOk es=true) {cl:Lf} {s p n:Nat} {rest:PL} {ρ:List T} {xs:List (List T)}
  (hp:ρ.length=p) (hs:s < p) (ht:ρ.getD s T.dft=.l xs) (hc:Lf.ev ρ cl=.c (.int .i64 (n:Int))) (hw:∀ r∈xs,WTs es r) (hb:zH_ xs≤1048576) (hn:n+64 * zH_ xs≤1099511627776)
  (hk:∀ f:Sem1,PL.den S rounds (f :: K) (ρ++[T.c (.int .i64 ((ze_ (mkR es) n xs).1:Int)),T.c (.int .i64 (xs.length:Int)),.l (ze_ (mkR es) n xs).2,T.c (.int .i64 (xs.length:Int)),T.c (.bool false)]) rest=out) :
  PL.den S rounds K ρ (lvP flds [] cl s p fun _ _ _=>rest)=out :=
 aJz_ hF hl hm (P:=[]) (Q:=[]) trivial rfl hp hs ht hc hw hb hn hk
set_option linter.unusedSimpArgs false
def TOk (S:Nat→Sem1) (f:Ty):Prop :=
 ∀ (w j:Nat) (out:Option (List T)) (K:List Sem1) (P Q:Pt) (k s c p q kv n:Nat) (cont:Nat→Nat→Nat→Nat→PL) (ρ:List T) (t:T) (xs:List (List T)) (dn ts:List T) (u:T),PathOk ρ P Q→getV Q t=some (.l xs)→ρ.length=p→s < p→ρ.getD s T.dft=t →
  k < p→ρ.getD k T.dft=.c (.int .i64 (kv:Int))→c < p→ρ.getD c T.dft=.c (.int .i64 (n:Int))→xs[kv]?=some (dn++u :: ts)→dn.length=j→(dn++u :: ts).length=w→WT f u→bulk u≤1048576→n+1+64 * bulk u≤1099511627776 →
  (∀ (Ks:List Sem1) (B:List T) (s' c' p':Nat),(ρ++B).length=p'→s' < p'→c' < p'→(ρ++B).getD c' T.dft=.c (.int .i64 ((mkT f n u).1:Int))→(ρ++B).getD s' T.dft=setV Q t (.l (xs.set kv (dn++(mkT f n u).2 :: ts))) →
   PL.den S rounds (Ks++K) (ρ++B) (cont s' c' p' (q+Ks.length))=out)→PL.den S rounds K ρ (apg_ f w j P k s c p q cont)=out
theorem aR4_ {S:Nat→Sem1}:TOk S (.i .i64):=by
 intro w j out K P Q k s c p q kv n cont ρ t xs dn ts u hP hg hp hs ht hk hkv hc hn hr hj hw hu hb hbn hcont
 rw [al1_] at hcont
 have e3:IntKind.i64.wrap ((n:Int)+1)=((n+1:Nat):Int):=by rw [je_ (by omega) (by omega)];simp
 simp only [apg_]
 refine aLa_ hP hg hp hs ht hk hkv hc hn rfl hr hw (by simp at hw;omega) fun B s' p' q1 q2 q3=>?_
 have x:=yP_ hn (by omega) B
 rw [y1_]
 simp only [List.map_cons,List.map_nil,ev_a,ev_k,x,qj_,e3,za_,List.append_assoc]
 rw [vg_ hr hj] at q3
 refine hcont [] _ s' p' (p'+1) (by simp at q1 ⊢;omega) (by omega) (by omega) ?_ ?_
 ·rw [← List.append_assoc,← q1];exact qE_
 ·rw [← List.append_assoc];exact yP_ q3 (by rw [q1];exact q2) _
theorem aSa_ {S:Nat→Sem1}:TOk S .b:=by
 intro w j out K P Q k s c p q kv n cont ρ t xs dn ts u hP hg hp hs ht hk hkv hc hn hr hj hw hu hb hbn hcont
 rw [alv_] at hcont
 have e3:IntKind.i64.wrap ((n:Int)+1)=((n+1:Nat):Int):=by rw [je_ (by omega) (by omega)];simp
 have hbeq:(((n % 3:Nat):Int) == (0:Int))=(n % 3 == 0):=aC2_ (n % 3) 0
 have y1:(ρ++[T.c (.int .i64 ((n % 3:Nat):Int))]).getD p T.dft=.c (.int .i64 ((n % 3:Nat):Int)):=by rw [← hp];exact qE_
 simp only [apg_]
 rw [y1_]
 simp only [List.map_cons,List.map_nil,ev_a,ev_k,hn,aDr_,za_]
 rw [y1_]
 simp only [List.map_cons,List.map_nil,ev_a,ev_k,y1,apc_,hbeq,za_,List.append_assoc,List.cons_append,List.nil_append]
 have y2:(ρ++[T.c (.int .i64 ((n % 3:Nat):Int)),T.c (.bool (n % 3 == 0))]).getD (p+1) T.dft=T.c (.bool (n % 3 == 0)):=by rw [xR_ hp];rfl
 refine aLa_ (PathOk.ext _ hP) hg (by simp [hp]) (by omega) (yP_ ht (by omega) _) (by omega) (yP_ hkv (by omega) _) (by omega) y2 rfl hr hw (by simp at hw;omega) fun B s' p' q1 q2 q3=>?_
 simp only [List.append_assoc] at q1 q3 ⊢
 have x:=yP_ hn (by omega) ([T.c (.int .i64 ((n % 3:Nat):Int)),T.c (.bool (n % 3 == 0))]++B)
 rw [y1_]
 simp only [List.map_cons,List.map_nil,ev_a,ev_k,x,qj_,e3,za_]
 rw [vg_ hr hj] at q3
 rw [List.append_assoc]
 refine hcont [] _ s' p' (p'+1) (by simp at q1 ⊢;omega) (by omega) (by omega) ?_ ?_
 ·rw [← List.append_assoc,← q1];exact qE_
 ·rw [← List.append_assoc];exact yP_ q3 (by rw [q1];exact q2) _
theorem aQb_ {S:Nat→Sem1} {es:List Ty} (hF:FOk S es.length es 0 (qO_ es es.length 0)) (hl:es.length≤64) (hm:mkOk es=true):TOk S (.sl es):=by
 intro w j out K P Q k s c p q kv n cont ρ t xs dn ts u hP hg hp hs ht hk hkv hc hn hr hj hw hu hb hbn hcont
 unfold WT at hu
 obtain ⟨ys,rfl,_,hy⟩:=hu
 rw [akm_] at hcont
 rw [z3_] at hb hbn
 have hrj:(dn++T.l ys :: ts)[j]?=some (.l ys):=by subst hj;simp
 have hg2:getV (Q++[(kv,w,j)]) t=some (.l ys):=by rw [am1_,hg];exact aq5_ hr hw hrj rfl
 simp only [apg_]
 refine jQ_ hP hg hp hs ht fun e a1 a2 a3=>?_
 rw [y1_]
 simp only [List.map_cons,List.map_nil,ev_a,a3,yP_ hkv (by omega) _,jg_ hr,za_,List.append_assoc]
 refine jQ_ (PathOk.ext _ hP) hg (by simp [hp,a1];omega) (by omega) (yP_ ht (by omega) _) fun e2 b1 b2 b3=>?_
 simp only [List.append_assoc] at b3 ⊢
 rw [y1_]
 simp only [List.map_cons,List.map_nil,ev_a,b3,yP_ hkv (by omega) _,aKx_ hr hw hrj,za_,List.append_assoc]
 refine aSv_ hF hl hm (PathOk.snoc (by simp;omega) (yP_ hkv (by omega) _) (PathOk.ext _ hP)) hg2 (by simp [hp,a1];omega) (by omega) (yP_ ht (by omega) _) (n:=n) (by rw [ev_a];exact yP_ hn (by omega) _) hy hb (by omega) fun f B c' s' p' q1 q2 q3 q4 q5=>?_
 rw [List.append_assoc] at q1 q4 q5 ⊢
 refine hcont [f] _ s' c' p' q1 q3 q2 q4 ?_
 rw [q5,amx_ hg]
 congr 1
 have e0:((xs[kv]?).bind (·[j]?)).getD T.dft=.l ys:=by rw [hr];simp [hrj]
 simp only [setV,e0]
 rw [vg_ hr hj]
mutual
theorem aP7_ {S:Nat→Sem1}:∀ (f:Ty),uF_ f=true→TOk S f
 | .i k,h=>by
  cases k with
  | i64=>exact aR4_
  | _=>simp [uF_] at h
 | .b,h=>aSa_
 | .s,h=>by simp [uF_] at h
 | .sl es,h=>aQb_ (qQ_ es 0 (abu_ h).2 es.length) (abu_ h).1 (abu_ h).2
theorem qQ_ {S:Nat→Sem1}:∀ (fs:List Ty) (j:Nat),mkOk fs=true→∀ w,FOk S w fs j (qO_ fs w j)
 | [],j,h,w=>by
  intro out K P Q k s c p q kv n cont ρ t xs dn ts hP hg hp hs ht hk hkv hc hn hr hj hw hu hb hbn hcont
  unfold WTs at hu
  subst hu
  simp only [qO_]
  have:=hcont [] [] s c p (by simpa using hp) hs hc (by simpa [kb_] using hn) (by
   rw [kb_,ayu_ hr,ald_ hg];simpa using ht)
  simpa using this
 | f :: fs,j,h,w=>by
  intro out K P Q k s c p q kv n cont ρ t xs dn ts hP hg hp hs ht hk hkv hc hn hr hj hw hu hb hbn hcont
  unfold WTs at hu
  obtain ⟨u,ts',rfl,h1,h2⟩:=hu
  have hm:=ad2_ h
  have hle:=aop_ f n u hm.1 h1
  simp only [zo_,List.length_cons] at hb hbn
  simp only [qO_]
  refine aP7_ f hm.1 w j out K P Q k s c p q kv n _ ρ t xs dn ts' u hP hg hp hs ht hk hkv hc hn hr hj hw h1 (by omega) (by omega) fun Ks B s' c' p' q1 q2 q3 q4 q5=>?_
  have hkl:kv < xs.length:=(List.getElem?_eq_some_iff.1 hr).1
  refine qQ_ fs (j+1) hm.2 w out (Ks++K) P Q k s' c' p' (q+Ks.length) kv (mkT f n u).1 cont (ρ++B) _ (xs.set kv (dn++(mkT f n u).2 :: ts')) (dn++[(mkT f n u).2]) ts' (PathOk.ext _ hP) (ab2_ hg) q1 q2 q5 (by simp at q1;omega) (yP_ hkv (by omega) _) q3 q4
   (by simp [hkl]) (by simp [hj]) (by simp at hw ⊢;omega) h2 (by omega) (by omega) fun Ks2 B2 s2 c2 p2 r1 r2 r3 r4 r5=>?_
  rw [List.append_assoc] at r1 r4 r5 ⊢
  have:=hcont (Ks2++Ks) (B++B2) s2 c2 p2 r1 r2 r3 (by rw [r4,vs_]) (by
   rw [r5,ann_ hg,List.set_set,vs_,List.append_assoc]
   rfl)
  rw [List.append_assoc,List.length_append] at this
  rw [show q+Ks.length+Ks2.length=q+(Ks2.length+Ks.length) by omega]
  exact this
end
set_option linter.defProp false in
def pb:=(And.intro (And.intro (And.intro (And.intro (And.intro (@uT_) (@y1_)) (And.intro (@jz_) (And.intro (@wb_) (@qv_)))) (And.intro (And.intro (@aH5_) (And.intro (@List.map_cons.{0,0}) (@List.map_nil.{0,0}))) (And.intro (@ev_k) (And.intro (@ev_e) (@ev_a))))) (And.intro (And.intro (And.intro (@List.cons_append.{0}) (@List.nil_append.{0})) (And.intro (@List.append_assoc.{0}) (And.intro (@List.getD_cons_zero.{0}) (@List.getD_cons_succ.{0})))) (And.intro (And.intro (@za_) (And.intro (@w6_) (@cond_true.{1}))) (And.intro (@cond_false.{1}) (And.intro (@decide_true) (@decide_false)))))) (And.intro (And.intro (And.intro (And.intro (@wT_) (@aC1_)) (And.intro (@adc_) (And.intro (@ahu_) (@aw7_)))) (And.intro (And.intro (@vu_) (And.intro (@aH3_) (@aLe_))) (And.intro (@aIn_) (And.intro (@apc_) (@afp_))))) (And.intro (And.intro (And.intro (@qj_) (@aok_)) (And.intro (@aDp_) (And.intro (@aDf_) (@any_)))) (And.intro (And.intro (@ayg_) (And.intro (@av6_) (@Bool.not_true))) (And.intro (@Bool.not_false) (And.intro (@bne_self_eq_false.{0}) (@beq_self_eq_true.{0})))))))
set_option linter.unusedSimpArgs false
theorem aR6_ {sc:Bool} {w:Nat} {xs ys:List (List T)} (h:xs.length+ys.length < vy_) (hs:(!sc || ys.all (·.all scal))=true) (h1:okW w xs=true) (h2:okW w ys=true):Prim.ev (.app sc w) [.l xs,.l ys]=some (.l (xs++ys)):=by
 simp only [Prim.ev,h,hs,h1,h2,if_true]
theorem y3_ {w:Nat} {ms:List Bool} {ts:List T} (hw:0 < w) (hm:vJ_ ms ts=true) (hl:ts.length=w):Prim.ev (.lit w ms) ts=some (.l [ts]):=by
 have h1:ts.length / w=1:=by rw [hl];exact Nat.div_self hw
 have h2:ts.take w=ts:=by rw [← hl];exact List.take_length
 simp only [Prim.ev,hw,hm,h1,if_true,x8_,h2]
theorem aiw_ {fs:List Ty} {xs:List (List T)} (h1:xs.length≤maxLen) (h2:∀ r∈xs,WTs fs r):WT (.sl fs) (.l xs):=by
 unfold WT
 exact ⟨xs,rfl,h1,h2⟩
theorem aR2_ {fs:List Ty} {xs:List (List T)} (h1:xs.length≤maxLen) (h2:∀ r∈xs,WTs fs r):WTs [.sl fs] [.l xs]:=by
 unfold WTs
 refine ⟨_,[],rfl,aiw_ h1 h2,?_⟩
 unfold WTs
 rfl
set_option linter.unusedSimpArgs false
def sgOf:List (Nat × Sig)→Nat→Option Sig
 | [],_=>none
 | e :: l,g=>bif Nat.beq e.1 g then some e.2 else sgOf l g
theorem awg_:∀ {l:List (Nat × Sig)} {g:Nat} {sg:Sig},sgOf l g=some sg→(g,sg)∈l
 | [],_,_,h=>by cases h
 | e :: l,g,sg,h=>by
  unfold sgOf at h
  cases hb:Nat.beq e.1 g with
  | true =>
   rw [hb] at h
   simp only [cond_true,Option.some.injEq] at h
   have:=Nat.eq_of_beq_eq_true hb
   subst this;subst h
   exact .head _
  | false =>
   rw [hb] at h
   exact .tail _ (awg_ h)
def Cx.on (cx:Cx) (l:List (Nat × Sig)):Cx:={ cx with sg:=sgOf l }
def Fok (P:Program) (sg:Sig) (g:Nat) (F:Sem1):Prop:=FnIn P g∧aqr_ P sg g F
structure Seat (P:Program) (cx:Cx):Prop where
 tys:TyAll P cx
 into:∀ g fn,cx.fn g=some fn→P.funcs[g]?=some fn∧FnIn P g
 mx:P.follows .mixedOrders=true
def aIz_:List ((Nat × Nat × Nat) × Js)→Nat→Nat→Nat→Option Js
 | [],_,_,_=>none
 | e :: l,f,k,j=>bif Nat.beq e.1.1 f && (Nat.beq e.1.2.1 k && Nat.beq e.1.2.2 j) then some e.2 else aIz_ l f k j
def fzOf:List (Nat × Nat × Nat)→Nat→Nat→Nat→Bool
 | [],_,_,_=>false
 | e :: l,f,k,j=>(Nat.beq e.1 f && (Nat.beq e.2.1 k && Nat.beq e.2.2 j)) || fzOf l f k j
def memN:List Nat→Nat→Bool
 | [],_=>false
 | e :: l,f=>Nat.beq e f || memN l f
theorem Fok.mk {P:Program} {cx:Cx} (Z:Seat P cx) {R n g:Nat} {fn:Func} {sg:Sig} {pl:PL} {l:List (Nat × Sig)} {S:Nat→Sem1} (hin:FnIn P g) (hf:P.funcs[g]?=some fn)
  (hl:∀ x∈l,Fok P x.2 x.1 (S x.1)) (h:aqn_ (cx.on l) n g fn sg=some pl):Fok P sg g fun ts=>pl.den S R [] ts :=
 ⟨hin,ar7_ (cx:=cx.on l) ⟨⟨Z.tys.ty⟩,fun g' sg' h'=>hl _ (awg_ h'),Z.into⟩ Z.mx hf h⟩
theorem FnIn.mk {P:Program} {g:Nat} {fn:Func} (h:P.funcs[g]?=some fn) (h1:(fn.name == "runtime.NumGoroutine")=false) (h2:fn.body.isNone=false):FnIn P g:=⟨fn,h,h1,h2⟩
structure Kok (P:Program) where
 g:Nat
 sg:Sig
 F:Sem1
 ok:Fok P sg g F
def ksg {P:Program} (l:List (Kok P)):List (Nat × Sig):=l.map fun k=>(k.g,k.sg)
def kS {P:Program} (l:List (Kok P)):List (Nat × Sem1):=l.map fun k=>(k.g,k.F)
theorem av1_ {P:Program}:∀ {ks:List (Kok P)} {g:Nat} {sg:Sig},sgOf (ksg ks) g=some sg→Fok P sg g (pick (kS ks) g)
 | [],g,sg,h=>by cases h
 | k :: ks,g,sg,h=>by
  simp only [ksg,List.map_cons,sgOf] at h
  simp only [kS,List.map_cons,pick]
  cases hb:Nat.beq k.g g with
  | true =>
   rw [hb,cond_true] at h
   cases h
   rw [cond_true,← Nat.eq_of_beq_eq_true hb]
   exact k.ok
  | false =>
   rw [hb,cond_false] at h
   rw [cond_false]
   exact av1_ h
def Kok.mk2 {P:Program} {cx:Cx} (Z:Seat P cx) (g:Nat) {fn:Func} (sg:Sig) (pl:PL) (F:Sem1) (ks:List (Kok P)) (hf:P.funcs[g]?=some fn) (h:aqn_ (cx.on (ksg ks)) 8 g fn sg=some pl)
  (h1:((fn.name == "runtime.NumGoroutine") || fn.body.isNone)=false) (hF:F=Fs pl (kS ks)):Kok P :=
 ⟨g,sg,F,⟨fn,hf,(Bool.or_eq_false_iff.1 h1).1,(Bool.or_eq_false_iff.1 h1).2⟩,by
  rw [hF]
  exact ar7_ (cx:=cx.on (ksg ks)) ⟨⟨Z.tys.ty⟩,fun g' sg' h'=>av1_ h',Z.into⟩ Z.mx hf h⟩
def tysB (P:Program) (l:List (Nat × TI)):Bool:=l.all fun x=>tyB P x.1 x.2
def tiOf:List (Nat × TI)→Nat→Option TI
 | [],_=>none
 | e :: l,g=>bif Nat.beq e.1 g then some e.2 else tiOf l g
theorem awp_:∀ {l:List (Nat × TI)} {g:Nat} {sg:TI},tiOf l g=some sg→(g,sg)∈l
 | [],_,_,h=>by cases h
 | e :: l,g,sg,h=>by
  unfold tiOf at h
  cases hb:Nat.beq e.1 g with
  | true =>
   rw [hb] at h
   simp only [cond_true,Option.some.injEq] at h
   have:=Nat.eq_of_beq_eq_true hb
   subst this;subst h
   exact .head _
  | false =>
   rw [hb] at h
   exact .tail _ (awp_ h)
theorem aRh_ {P:Program} {cx:Cx} {l:List (Nat × TI)} (h:tysB P l=true) (he:cx.ty=tiOf l):TyAll P cx:=by
 refine ⟨fun t ti ht=>?_⟩
 rw [he] at ht
 exact aR9_ (List.all_eq_true.1 h _ (awp_ ht))
def fnOf:List (Nat × Func)→Nat→Option Func
 | [],_=>none
 | e :: l,g=>bif Nat.beq e.1 g then some e.2 else fnOf l g
theorem aP4_ {P:Program} {cx:Cx} {l:List (Nat × Func)} (h:∀ x∈l,P.funcs[x.1]?=some x.2∧FnIn P x.1) (he:cx.fn=fnOf l):∀ g fn,cx.fn g=some fn→P.funcs[g]?=some fn∧FnIn P g:=by
 intro g fn hg
 rw [he] at hg
 clear he
 induction l with
 | nil=>cases hg
 | cons e l ih =>
  unfold fnOf at hg
  cases hb:Nat.beq e.1 g with
  | true =>
   rw [hb] at hg
   simp only [cond_true,Option.some.injEq] at hg
   have:=Nat.eq_of_beq_eq_true hb
   subst this;subst hg
   exact h _ (.head _)
  | false =>
   rw [hb] at hg
   exact ih (fun x hx=>h x (.tail _ hx)) hg
open Go.ChangeShapes Go.WideShapes Go.ChangeAt Go.RowKit
section
variable {P:Program}
def tyFs (P:Program) (r:TypeId→Option (List Ty)):Nat→List Field→Option (List Ty)
 | _,[]=>some []
 | o,f :: fs=>bif Nat.beq f.offset o then (r f.type).bind fun a=>bif Nat.beq (P.cellsOf f.type) a.length then (tyFs P r (o+a.length) fs).bind fun b=>some (a++b) else none else none
def tyOf (P:Program):Nat→TypeId→Option (List Ty)
 | 0,_=>none
 | n+1,t =>
  match P.underlying t with
  | some (.int k)=>some [.i k]
  | some .bool=>some [.b]
  | some .string=>some [.s]
  | some (.slice e)=>(tyOf P n e).bind fun fs=>bif fs.isEmpty then none else some [.sl fs]
  | some (.struct fs)=>(tyFs P (tyOf P n) 0 fs.toList).bind fun ts=>bif Nat.beq ts.length (P.cellsOf t) then some ts else none
  | _=>none
variable {H:Type} {enc:TypeId × Value→H} {w:World} {base:Nat} {spare:Nat→Bool} {held:Bool} {ω:Nat→Option Lb}
theorem DenL.append {ω:Nat→Option Lb}:∀ {ts ts':List T} {vs vs':List Value},DenL ω w ts vs→DenL ω w ts' vs'→DenL ω w (ts++ts') (vs++vs')
 | [],ts',[],vs',_,h'=>h'
 | t :: ts,ts',v :: vs,vs',h,h'=>⟨h.1,DenL.append h.2 h'⟩
 | [],_,_ :: _,_,h,_=>h.elim
 | _ :: _,_,[],_,h,_=>h.elim
theorem aye_ {r:TypeId→Option (List Ty)} {cs:List Value}:∀ {fl:List Field} {o:Nat} {ys:List Ty},tyFs P r o fl=some ys →
  (∀ f∈fl,∀ a,r f.type=some a→∃ ts,DenL ω w ts ((cs.drop f.offset).take (P.cellsOf f.type))∧WTs a ts)→∃ ts,DenL ω w ts ((cs.drop o).take ys.length)∧WTs ys ts
 | [],o,ys,h,_=>by
  simp only [tyFs,Option.some.injEq] at h
  subst h
  exact ⟨[],by simp [DenL],rfl⟩
 | f :: fl,o,ys,h,hr=>by
  unfold tyFs at h
  cases h1:Nat.beq f.offset o with
  | false=>simp [h1] at h
  | true =>
   simp only [h1,cond_true,Option.bind_eq_some_iff] at h
   obtain ⟨a,ha,h⟩:=h
   cases h2:Nat.beq (P.cellsOf f.type) a.length with
   | false=>simp [h2] at h
   | true =>
    simp only [h2,cond_true,Option.bind_eq_some_iff,Option.some.injEq] at h
    obtain ⟨b,hb,rfl⟩:=h
    have e1:=Nat.eq_of_beq_eq_true h1
    have e2:=Nat.eq_of_beq_eq_true h2
    obtain ⟨t1,g1,g2⟩:=hr f (.head _) a ha
    obtain ⟨t2,g3,g4⟩:=aye_ hb fun f hf=>hr f (.tail _ hf)
    refine ⟨t1++t2,?_,g2.append g4⟩
    rw [e1,e2] at g1
    rw [List.length_append,List.take_add,List.drop_drop]
    exact g1.append g3
theorem aMv_:∀ (n m:Nat) {t:TypeId} {cs:List Value} {x:DataW H × List MemPlace} {fs:List Ty},DataW.trod enc P w 0 spare held n t cs=some x→tyOf P m t=some fs →
  (∀ b,ω b=none)→∃ ts,DenL ω w ts cs∧WTs fs ts:=by
 intro n
 induction n with
 | zero=>intro m t cs x fs h;simp [DataW.trod] at h
 | succ n ih =>
  intro m t cs x fs h ht hω
  cases m with
  | zero=>cases ht
  | succ m =>
   unfold tyOf at ht
   cases hu:P.underlying t with
   | none=>rw [hu] at ht;cases ht
   | some u =>
    rw [hu] at ht
    cases u with
    | int k =>
     simp only [Option.some.injEq] at ht
     subst ht
     obtain ⟨a,e0,e1,wa⟩:=DataW.trod_int hu h
     subst e0 e1
     exact ⟨[.c (.int k a)],⟨.c rfl,trivial⟩,_,_,rfl,⟨_,rfl,wa⟩,rfl⟩
    | bool =>
     simp only [Option.some.injEq] at ht
     subst ht
     obtain ⟨b,rfl,_⟩:=DataW.trod_bool hu h
     exact ⟨[.c (.bool b)],⟨.c rfl,trivial⟩,_,_,rfl,⟨_,rfl⟩,rfl⟩
    | string =>
     simp only [Option.some.injEq] at ht
     subst ht
     obtain ⟨s,rfl,_,hs⟩:=DataW.trod_string hu h
     exact ⟨[.c (.string s)],⟨.c rfl,trivial⟩,_,_,rfl,⟨_,rfl,hs⟩,rfl⟩
    | slice e =>
     simp only [Option.bind_eq_some_iff] at ht
     obtain ⟨gs,hg,ht⟩:=ht
     cases hz:gs.isEmpty with
     | true=>simp [hz] at ht
     | false =>
      simp only [hz,cond_false,Option.some.injEq] at ht
      subst ht
      rcases DataW.trod_slice hu h with ⟨rfl,_⟩ | ⟨a,len,cap,elems,rest,n',e1,rfl,_,_,hlc,hcm,hel,hat,_⟩
      ·exact ⟨[.l []],⟨.nil,trivial⟩,_,_,rfl,⟨[],rfl,Nat.zero_le _,by simp⟩,rfl⟩
      ·cases e1
       have each:∀ i,i < len→∃ vs ts,w.cells? 0 (a.add (i * P.cellsOf e)) (P.cellsOf e)=some vs∧DenL ω w ts vs∧WTs gs ts:=by
        intro i hi
        have h1:=hat i hi
        rw [← hel] at hi
        rw [List.getElem?_eq_getElem hi,Option.bind_eq_some_iff] at h1
        obtain ⟨vs,g1,g2⟩:=h1
        obtain ⟨ts,g3,g4⟩:=ih m g2 hg hω
        exact ⟨vs,ts,g1,g3,g4⟩
       by_cases h0:len=0
       ·subst h0
        exact ⟨[.l []],⟨.nil,trivial⟩,_,_,rfl,⟨[],rfl,Nat.zero_le _,by simp⟩,rfl⟩
       ·have hc:=fun i=>fun hi:i < len=>Classical.choose_spec (each i hi)
        let vf:Nat→List Value:=fun i=>if hi:i < len then Classical.choose (each i hi) else []
        have hv:∀ i,i < len→∃ ts,w.cells? 0 (a.add (i * P.cellsOf e)) (P.cellsOf e)=some (vf i)∧DenL ω w ts (vf i)∧WTs gs ts:=by
         intro i hi
         have:vf i=Classical.choose (each i hi):=by simp [vf,hi]
         rw [this]
         exact hc i hi
        have ht:∃ tf:Nat→List T,∀ i,i < len→w.cells? 0 (a.add (i * P.cellsOf e)) (P.cellsOf e)=some (vf i)∧DenL ω w (tf i) (vf i)∧WTs gs (tf i):=by
         refine ⟨fun i=>if hi:i < len then Classical.choose (hv i hi) else [],fun i hi=>?_⟩
         have:=Classical.choose_spec (hv i hi)
         simpa [hi] using this
        obtain ⟨tf,htf⟩:=ht
        have hwd:∀ i,i < len→(vf i).length=P.cellsOf e:=fun i hi=>(World.cells?_some (htf i hi).1).2.1
        have hgl:∀ i,i < len→(tf i).length=gs.length:=fun i hi=>(htf i hi).2.2.length
        have hwp:0 < P.cellsOf e:=by
         have h1:=hwd 0 (by omega)
         have h2:=hgl 0 (by omega)
         have h3:=(htf 0 (by omega)).2.1.length
         cases gs with
         | nil=>simp at hz
         | cons _ _=>simp at h2;omega
        obtain ⟨b,off,spot⟩:=a
        have hcell:∀ i j,i < len→j < P.cellsOf e→w.cell? ((⟨b,off,spot⟩:Addr).add (i * P.cellsOf e) |>.add j)=(vf i)[j]?:=fun i j hi hj=>(World.cells?_some (htf i hi).1).2.2 j hj
        have hspot:spot=none:=by
         have:=hcell 0 0 (by omega) hwp
         simp only [Nat.zero_mul,Addr.add,if_true] at this
         have hl:0 < (vf 0).length:=by rw [hwd 0 (by omega)];exact hwp
         rw [List.getElem?_eq_getElem hl] at this
         unfold World.cell? at this
         split at this
         ·split at this
          ·cases this
          ·rename_i h;simpa using h
         ·cases this
        subst hspot
        have hadd:∀ i j,((⟨b,off,none⟩:Addr).add (i * P.cellsOf e) |>.add j)=⟨b,off+(i * P.cellsOf e+j),none⟩:=by
         intro i j
         have e1:∀ k,(⟨b,off,none⟩:Addr).add k=⟨b,off+k,none⟩:=by
          intro k
          unfold Addr.add
          split
          ·rename_i h;subst h;rfl
          ·rfl
         have e2:∀ o k,(⟨b,o,none⟩:Addr).add k=⟨b,o+k,none⟩:=by
          intro o k
          unfold Addr.add
          split
          ·rename_i h;subst h;rfl
          ·rfl
         rw [e1,e2,Nat.add_assoc]
        have hlt:b < w.heap.size:=by
         have:=World.cells?_block (htf 0 (by omega)).1 hwp
         rw [Nat.zero_mul] at this
         exact this
        have hat2:∀ i j t,at2 ((List.range len).map tf) i j=some t→i < len∧(tf i)[j]?=some t:=by
         intro i j t h
         unfold at2 at h
         rw [Option.bind_eq_some_iff] at h
         obtain ⟨r,h1,h2⟩:=h
         rw [List.getElem?_map,Option.map_eq_some_iff] at h1
         obtain ⟨i',h3,rfl⟩:=h1
         have hi:i < len:=by
          rcases Nat.lt_or_ge i len with h | h
          ·exact h
          ·rw [List.getElem?_eq_none (by simpa using h)] at h3;cases h3
         rw [List.getElem?_range hi] at h3
         cases h3
         exact ⟨hi,h2⟩
        refine ⟨[.l ((List.range len).map tf)],⟨?_,trivial⟩,_,_,rfl,⟨_,rfl,by simp;omega,?_⟩,rfl⟩
        ·have:=Den.l (ω:=ω) (w:=w) (xs:=(List.range len).map tf) (b:=b) (off:=off) (wd:=P.cellsOf e) (cap:=cap) (cv:=fun i j=>((vf i)[j]?).getD default)
          (by
           intro r hr
           rw [List.mem_map] at hr
           obtain ⟨i,hi,rfl⟩:=hr
           have hi:=List.mem_range.1 hi
           rw [(htf i hi).2.1.length,hwd i hi])
          (by simpa using hlc) (hω b) hlt
          (by
           intro i j t h
           obtain ⟨hi,hj⟩:=hat2 i j t h
           have hj':j < (vf i).length:=by rw [← (htf i hi).2.1.length];exact (List.getElem?_eq_some_iff.1 hj).1
           have:=hcell i j hi (by rw [← hwd i hi];exact hj')
           rw [hadd] at this
           rw [this,List.getElem?_eq_getElem hj']
           rfl)
          (by
           intro i j t h
           obtain ⟨hi,hj⟩:=hat2 i j t h
           have hj':j < (vf i).length:=by rw [← (htf i hi).2.1.length];exact (List.getElem?_eq_some_iff.1 hj).1
           refine (htf i hi).2.1.get j t _ hj ?_
           rw [List.getElem?_eq_getElem hj']
           rfl)
         simpa using this
        ·intro r hr
         rw [List.mem_map] at hr
         obtain ⟨i,hi,rfl⟩:=hr
         exact (htf i (List.mem_range.1 hi)).2.2
    | struct fl =>
     simp only [Option.bind_eq_some_iff] at ht
     obtain ⟨ys,hy,ht⟩:=ht
     cases hz:Nat.beq ys.length (P.cellsOf t) with
     | false=>simp [hz] at ht
     | true =>
      simp only [hz,cond_true,Option.some.injEq] at ht
      subst ht
      obtain ⟨xs,n',e1,_,hl,hxl,hat⟩:=DataW.trod_struct hu h
      cases e1
      obtain ⟨ts,h1,h2⟩:=aye_ (ω:=ω) (w:=w) (cs:=cs) hy fun f hf a ha=>by
       obtain ⟨i,hi,hfi⟩:=List.getElem_of_mem hf
       have h1:=hat i f (by rw [← hfi,← Array.getElem?_toList];exact List.getElem?_eq_getElem hi)
       have hi':i < xs.length:=by rw [hxl];simpa using hi
       rw [List.getElem?_eq_getElem hi'] at h1
       exact ih m h1 ha hω
      refine ⟨ts,?_,h2⟩
      rw [List.drop_zero,Nat.eq_of_beq_eq_true hz,← hl,List.take_length] at h1
      exact h1
    | _=>cases ht
def anz_ (P:Program) (t:TypeId):Bool :=
 match P.underlying t with
 | some (.struct _)=>true
 | _=>false
def psB (P:Program):List TypeId→List PS→Option (List Ty)
 | [],[]=>some []
 | t :: ts,.v ag n :: ps=>(tyOf P 16 t).bind fun fs=>bif Nat.beq fs.length n && (anz_ P t == ag) then (psB P ts ps).bind fun gs=>some (fs++gs) else none
 | _,_=>none
theorem aDv_ {bl:Nat→Option Nat} (hω:∀ b,ω b=none) {r:Reach} {b0:Nat}:∀ {ts:List TypeId} {vs:List Value} {ds:List (DataW H)} {pl:List MemPlace} {ps:List PS} {ys:List Ty} {i:Nat},DataW.TrodAll enc P w 0 spare held ts vs ds pl →
  (∀ (j:Nat) t v,ts[j]?=some t→vs[j]?=some v→Value.okWide P w r b0 t v)→psB P ts ps=some ys→∃ us,alp_ ω w bl i ps vs us∧WTs ys us
 | [],[],[],pl,ps,ys,i,h,hv,hp=>by
  cases ps with
  | nil=>simp only [psB,Option.some.injEq] at hp;subst hp;exact ⟨[],⟨rfl,rfl⟩,rfl⟩
  | cons _ _=>simp [psB] at hp
 | t :: ts,v :: vs,d :: ds,pl,ps,ys,i,⟨p,q,h1,h2,e⟩,hv,hp=>by
  cases ps with
  | nil=>simp [psB] at hp
  | cons p0 ps =>
   cases p0 with
   | x n=>simp [psB] at hp
   | v ag n =>
    simp only [psB,Option.bind_eq_some_iff] at hp
    obtain ⟨fs,hfs,hp⟩:=hp
    cases hc:(Nat.beq fs.length n && (anz_ P t == ag)) with
    | false=>simp [hc] at hp
    | true =>
     simp only [hc,cond_true,Option.bind_eq_some_iff,Option.some.injEq] at hp
     obtain ⟨gs,hgs,rfl⟩:=hp
     simp only [Bool.and_eq_true,beq_iff_eq] at hc
     obtain ⟨us,g1,g2⟩:=aDv_ (bl:=bl) (i:=i+1) hω h2 (fun j t v hj hj'=>hv (j+1) t v hj hj') hgs
     obtain ⟨f,h1⟩:=h1
     obtain ⟨t1,g3,g4⟩:=aMv_ f 16 h1 hfs hω
     have hok:=hv 0 t v rfl rfl
     refine ⟨t1++us,⟨v,vs,v.cells.toList,t1,us,rfl,rfl,by rw [g4.length];exact Nat.eq_of_beq_eq_true hc.1,?_,g3,g1⟩,g4.append g2⟩
     have hs:=hc.2
     unfold anz_ at hs
     unfold tyOf at hfs
     cases hu:P.underlying t with
     | none=>rw [hu] at hfs;cases hfs
     | some u =>
      rw [hu] at hfs hs
      cases u with
      | int k=>obtain ⟨a,rfl⟩:=okWide_int hu hok;subst hs;exact ⟨rfl,fun x h=>by cases h⟩
      | bool=>obtain ⟨a,rfl⟩:=okWide_bool hu hok;subst hs;exact ⟨rfl,fun x h=>by cases h⟩
      | string=>obtain ⟨a,rfl⟩:=okWide_string hu hok;subst hs;exact ⟨rfl,fun x h=>by cases h⟩
      | slice e=>obtain ⟨a,l,c,rfl⟩:=okWide_slice hu hok;subst hs;exact ⟨rfl,fun x h=>by cases h⟩
      | struct fl =>
       obtain ⟨cs,rfl,_⟩:=okWide_struct hu hok
       subst hs
       simp [Value.cells]
      | _=>cases hfs
 | [],_ :: _,_,_,_,_,_,h,_,_=>by simp [DataW.TrodAll] at h
 | [],[],_ :: _,_,_,_,_,h,_,_=>by simp [DataW.TrodAll] at h
 | _ :: _,[],_,_,_,_,_,h,_,_=>by simp [DataW.TrodAll] at h
 | _ :: _,_ :: _,[],_,_,_,_,h,_,_=>by simp [DataW.TrodAll] at h
theorem aja_ (hl:laidOutB P=true) {W W':World} {sp':Nat→Bool}:∀ {ts:List TypeId} {vs:List Value} {ds:List (DataW H)} {ps:List MemPlace},(∀ t∈ts,P.readableRec t=true∧t < P.types.size) →
  DataW.TrodAll enc P W base (fun _=>true) true ts vs ds ps→(∀ p∈ps,W.sameAt W' p)→(∀ p∈ps,sp' p.block=true)→DataW.TrodAll enc P W' base sp' true ts vs ds ps
 | [],[],[],_,_,h,_,_=>h
 | t :: ts,_ :: _,_ :: _,_,hT,⟨p,q,h1,h2,e⟩,hs,hb=>⟨p,q,WideElems.Trod_stays hl (hT t (.head _)).1 (hT t (.head _)).2 h1 (fun x hx=>hs x (by rw [e];exact List.mem_append_left _ hx)) (fun x hx=>hb x (by rw [e];exact List.mem_append_left _ hx)),
   aja_ hl (fun t ht=>hT t (.tail _ ht)) h2 (fun x hx=>hs x (by rw [e];exact List.mem_append_right _ hx)) (fun x hx=>hb x (by rw [e];exact List.mem_append_right _ hx)),e⟩
 | [],_ :: _,_,_,_,h,_,_=>by simp [DataW.TrodAll] at h
 | [],[],_ :: _,_,_,h,_,_=>by simp [DataW.TrodAll] at h
 | _ :: _,[],_,_,_,h,_,_=>by simp [DataW.TrodAll] at h
 | _ :: _,_ :: _,[],_,_,h,_,_=>by simp [DataW.TrodAll] at h
end
theorem aGc_ {H:Type} {enc:TypeId × Value→H} {C:Checked} {os:Os} {f:FuncId} {fn:Func} {s:ChangeSpec} {conds:List PathCond} {apart fresh handsOn again:Bool} {sg:Sig} {F:Sem1} {ys:List Ty} {rt:TypeId}
  (own:ownKnob C.prog.godebug=none) (started:os.Started) (noInit:C.prog.inits.idxOf? f=none) (hfn:C.prog.funcs[f]?=some fn)
  (witness:∃ (w:World) (tape:Tape) (i:Input),w.os=os∧(w.forCall tape i).Shaped C.prog∧i.vars=[]∧Input.okWide C.prog (w.forCall tape i) .any w.heap.size f i ∧
   s.pre6 enc C.prog fn conds apart (w.forCall tape i).memory i.args∧({}:Assume).holds C.prog (lone (Frame.enter C.prog f i.args .normal) [] (w.forCall tape i)))
  (hvars:s.vars=[]) (hspec:∀ ds:List (DataW H),ds.length=fn.params.size→s.fn H ds={ results:=[.lit (.bool true)],args:=ds })
  (hl:laidOutB C.prog=true) (hread:(fn.params.toList.all fun t=>C.prog.readableRec t && Nat.blt t C.prog.types.size)=true)
  (hrt:fn.resultTypes=#[rt]) (hbool:C.prog.underlying rt=some .bool) (hrs:sg.rs=[(false,[.s])])
  (hok:Fok C.prog sg f F) (hps:psB C.prog fn.params.toList sg.ps=some ys) (hF:∀ ts,WTs ys ts→F ts=some [.c (.bool true)]) :
  ReturnsInHanded {} C os f .any (s.pre6 enc C.prog fn conds apart) (s.post enc C.prog fn apart fresh handsOn again):=by
 refine returnsInHanded_of_change own started noInit hfn witness ?_
 intro W b0 args ds gs before hval hW _ _
 have hW':=hW
 obtain ⟨p,q,hA,hV,rfl,_,_⟩:=hW
 rw [hvars] at hV
 obtain ⟨rfl,rfl⟩:gs=[]∧q=[]:=by
  cases gs with
  | nil=>exact ⟨rfl,hV⟩
  | cons _ _=>exact hV.elim
 have hlen:ds.length=fn.params.size:=by
  have:∀ {ts:List TypeId} {vs:List Value} {ds:List (DataW H)} {ps:List MemPlace},DataW.TrodAll enc C.prog W 0 (fun _=>true) true ts vs ds ps→ds.length=ts.length:=by
   intro ts
   induction ts with
   | nil=>intro vs ds ps h;cases vs <;> cases ds <;> simp_all [DataW.TrodAll]
   | cons t ts ih =>
    intro vs ds ps h
    cases vs with
    | nil=>simp [DataW.TrodAll] at h
    | cons v vs =>
     cases ds with
     | nil=>simp [DataW.TrodAll] at h
     | cons d ds=>obtain ⟨_,_,_,h2,_⟩:=h;simp [ih h2]
  rw [this hA];simp
 have hT:∀ t∈fn.params.toList,C.prog.readableRec t=true∧t < C.prog.types.size:=by
  intro t ht
  have:=List.all_eq_true.1 hread t ht
  simp only [Bool.and_eq_true] at this
  exact ⟨this.1,Nat.blt_eq ▸ this.2⟩
 obtain ⟨us,hin,hwt⟩:=aDv_ (ω:=fun _=>none) (bl:=fun _=>none) (i:=0) (fun _=>rfl) hA (fun j t v h1 h2=>hval j t v (by simpa using h1) (by simpa using h2)) hps
 have hc:=hok.2 W (fun _=>none) (fun _=>none) args.toList us _ (hF us hwt) ⟨fun b l h=>by (cases h),fun i b h=>by (cases h)⟩ hin
 rw [Array.toArray_toList] at hc
 refine hc.mono fun e W' h=>?_
 obtain ⟨v,G,is,o1,o2,rfl,hp⟩:=h
 refine ⟨v,rfl,?_⟩
 have hold:∀ x∈p++[],MemPlace.block x < W.heap.size:=hW'.lt
 have hblk:∀ b,b < W.heap.size→W'.heap[b]?=W.heap[b]?:=fun b hb=>(hp.free b hb rfl).2
 have hsame:∀ x∈p,W.sameAt W' x:=by
  intro x hx
  have hb:=hold x (by simpa using hx)
  cases x with
  | cell b o=>show W'.cell? _=W.cell? _;unfold World.cell?;rw [hblk b hb]
  | map b=>exact hblk b hb
 have hv:v=.bool true:=by
  have h1:=hp.ret
  rw [hrs] at h1
  obtain ⟨t1,t2,i1,i2,e1,e2,h1,h2⟩:=h1
  obtain ⟨h1,_⟩:=h1
  have h3:=hp.outs
  rw [e1] at h3
  cases t1 with
  | nil=>simp [OutCs] at h1
  | cons t t1 =>
   cases i1 with
   | nil=>simp [OutCs] at h1
   | cons i i1 =>
    simp only [List.cons_append,List.cons.injEq] at h3
    rw [← h3.1] at h1
    obtain ⟨_,hd,_⟩:=h1
    cases hd
    rfl
 subst hv
 have hargs:=fun sp hsp=>aja_ (enc:=enc) (base:=0) (sp':=sp) hl hT hA hsame hsp
 have hsp:=hspec ds hlen
 have hok1:∀ (j:Nat) (t:TypeId) (r:Value),fn.resultTypes[j]?=some t→((Value.bool true).resultList fn.resultTypes.size)[j]?=some r→Value.okWide C.prog W' .any 0 t r:=by
  intro j t r hj hr
  rw [hrt] at hj hr
  have hj0:j=0:=by
   rcases Nat.eq_zero_or_pos j with h | h
   ·exact h
   ·have:(#[rt]:Array TypeId)[j]?=none:=by simp;omega
    rw [this] at hj;cases hj
  subst hj0
  cases hj;cases hr
  simp [Value.okWide,hbool,Cell.okWide,Cell.ok]
 have hres:∀ (b:Nat) (sp:Nat→Bool) (hd:Bool),DataW.TrodAll enc C.prog W' b sp hd fn.resultTypes.toList ((Value.bool true).resultList fn.resultTypes.size) (s.fn H (ds++[])).results []:=by
  intro b sp hd
  rw [List.append_nil,hsp,hrt]
  exact ⟨[],[],⟨1,by simp [DataW.trod,hbool,Value.cells]⟩,rfl,rfl⟩
 have harg:∀ sp:Nat→Bool,(∀ x∈p,sp x.block=true)→DataW.TrodAll enc C.prog W' 0 sp true fn.params.toList args.toList (s.fn H (ds++[])).args p:=by
  intro sp hs
  rw [List.append_nil,hsp]
  exact hargs sp hs
 have hvar:∀ sp:Nat→Bool,DataW.TrodVars enc C.prog W' sp s.vars (s.fn H (ds++[])).vars []:=by
  intro sp
  rw [List.append_nil,hsp,hvars]
  rfl
 have hW2:=hW'
 obtain ⟨_,_,_,_,_,hz,hn⟩:=hW2
 refine ⟨ds,[],p++[],[],p,[],hW',hres _ _ _,harg _ (fun x hx=>decide_eq_true (hold x (by simpa using hx))),hvar _,⟨hp.so.os,hp.so.output,fun i hi=>?_⟩,fun _=>⟨hok1,_,[],p++[],⟨[]++p,[],trodAll_append (harg _ fun _ _=>rfl) (hres _ _ _),by rw [hvars];rfl,rfl,?_,hn⟩,?_⟩⟩
 ·rw [hblk i hi]
  cases W.heap[i]? with
  | none=>trivial
  | some o=>cases o <;> simp
 ·intro b off hm
  have h1:=hz b off hm
  have hb:=hold _ hm
  unfold World.frozen? at h1 ⊢
  rw [show W'.heap[(⟨b,off,none⟩:Addr).block]?=W.heap[(⟨b,off,none⟩:Addr).block]? from hblk b hb]
  exact h1
 ·intro x hx _
  exact hx
def pv (p:Prim) (l:List T) (k:T→Option (List T)):Option (List T):=(Prim.ev p l).bind k
theorem pv_s (p:Prim) (l:List T) (k:T→Option (List T)):pv p l k=(Prim.ev p l).bind k:=rfl
def Yz (x:T) (k:T→Option (List T)):Option (List T):=(Prim.ev (.scl) [x]).bind k
theorem Yz_s (x:T) (k:T→Option (List T)):Yz x k=(Prim.ev (.scl) [x]).bind k:=rfl
def Ya (x y:T) (k:T→Option (List T)):Option (List T):=(Prim.ev (.bin .add) [x,y]).bind k
theorem Ya_s (x y:T) (k:T→Option (List T)):Ya x y k=(Prim.ev (.bin .add) [x,y]).bind k:=rfl
def Yb (x y:T) (k:T→Option (List T)):Option (List T):=(Prim.ev (.bnd) [x,y]).bind k
theorem Yb_s (x y:T) (k:T→Option (List T)):Yb x y k=(Prim.ev (.bnd) [x,y]).bind k:=rfl
def Yl (x y:T) (k:T→Option (List T)):Option (List T):=(Prim.ev (.bin .lss) [x,y]).bind k
theorem Yl_s (x y:T) (k:T→Option (List T)):Yl x y k=(Prim.ev (.bin .lss) [x,y]).bind k:=rfl
def Ye (x y:T) (k:T→Option (List T)):Option (List T):=(Prim.ev (.bin .eql) [x,y]).bind k
theorem Ye_s (x y:T) (k:T→Option (List T)):Ye x y k=(Prim.ev (.bin .eql) [x,y]).bind k:=rfl
def Yn (x:T) (k:T→Option (List T)):Option (List T):=(Prim.ev (.len) [x]).bind k
theorem Yn_s (x:T) (k:T→Option (List T)):Yn x k=(Prim.ev (.len) [x]).bind k:=rfl
def Yt (x:T) (k:T→Option (List T)):Option (List T):=(Prim.ev (.un .not) [x]).bind k
theorem Yt_s (x:T) (k:T→Option (List T)):Yt x k=(Prim.ev (.un .not) [x]).bind k:=rfl
def Yp (x y:T) (k:T→Option (List T)):Option (List T):=(Prim.ev (.app true 1) [x,y]).bind k
theorem Yp_s (x y:T) (k:T→Option (List T)):Yp x y k=(Prim.ev (.app true 1) [x,y]).bind k:=rfl
def Yo (x y:T) (k:T→Option (List T)):Option (List T):=(Prim.ev (.app false 3) [x,y]).bind k
theorem Yo_s (x y:T) (k:T→Option (List T)):Yo x y k=(Prim.ev (.app false 3) [x,y]).bind k:=rfl
def Yu (x y:T) (k:T→Option (List T)):Option (List T):=(Prim.ev (.bin .neq) [x,y]).bind k
theorem Yu_s (x y:T) (k:T→Option (List T)):Yu x y k=(Prim.ev (.bin .neq) [x,y]).bind k:=rfl
def Yg (x y:T) (k:T→Option (List T)):Option (List T):=(Prim.ev (.bin .gtr) [x,y]).bind k
theorem Yg_s (x y:T) (k:T→Option (List T)):Yg x y k=(Prim.ev (.bin .gtr) [x,y]).bind k:=rfl
def Ym (x y:T) (k:T→Option (List T)):Option (List T):=(Prim.ev (.bin .leq) [x,y]).bind k
theorem Ym_s (x y:T) (k:T→Option (List T)):Ym x y k=(Prim.ev (.bin .leq) [x,y]).bind k:=rfl
def Yh (x y:T) (k:T→Option (List T)):Option (List T):=(Prim.ev (.bin .geq) [x,y]).bind k
theorem Yh_s (x y:T) (k:T→Option (List T)):Yh x y k=(Prim.ev (.bin .geq) [x,y]).bind k:=rfl
def Ys (x y:T) (k:T→Option (List T)):Option (List T):=(Prim.ev (.bin .sub) [x,y]).bind k
theorem Ys_s (x y:T) (k:T→Option (List T)):Ys x y k=(Prim.ev (.bin .sub) [x,y]).bind k:=rfl
def Yv (x y:T) (k:T→Option (List T)):Option (List T):=(Prim.ev (.sub 1 true false) [x,y]).bind k
theorem Yv_s (x y:T) (k:T→Option (List T)):Yv x y k=(Prim.ev (.sub 1 true false) [x,y]).bind k:=rfl
def Yw (x y:T) (k:T→Option (List T)):Option (List T):=(Prim.ev (.sub 1 false true) [x,y]).bind k
theorem Yw_s (x y:T) (k:T→Option (List T)):Yw x y k=(Prim.ev (.sub 1 false true) [x,y]).bind k:=rfl
def Yx (x:T) (k:T→Option (List T)):Option (List T):=(Prim.ev (.lit 1 [true]) [x]).bind k
theorem Yx_s (x:T) (k:T→Option (List T)):Yx x k=(Prim.ev (.lit 1 [true]) [x]).bind k:=rfl
def Yy (x y:T) (k:T→Option (List T)):Option (List T):=(Prim.ev (.app false 8) [x,y]).bind k
theorem Yy_s (x y:T) (k:T→Option (List T)):Yy x y k=(Prim.ev (.app false 8) [x,y]).bind k:=rfl
def Yc (w j:Nat) (x y:T) (k:T→Option (List T)):Option (List T):=(Prim.ev (.cell w j) [x,y]).bind k
theorem Yc_s (w j:Nat) (x y:T) (k:T→Option (List T)):Yc w j x y k=(Prim.ev (.cell w j) [x,y]).bind k:=rfl
def Yq (x y:T) (k:T→Option (List T)):Option (List T):=(Prim.ev .bnd [x,y]).bind fun _=>(Prim.ev (.scell 1 0) [x,y]).bind k
theorem Yq_s (x y:T) (k:T→Option (List T)):Yq x y k=(Prim.ev .bnd [x,y]).bind fun _=>(Prim.ev (.scell 1 0) [x,y]).bind k:=rfl
def Y1 (x y:T) (k:T→Option (List T)):Option (List T):=(Prim.ev .bnd [x,y]).bind fun _=>(Prim.ev (.cell 1 0) [x,y]).bind fun a0=>k a0
theorem Y1_s (x y:T) (k:T→Option (List T)):Y1 x y k=(Prim.ev .bnd [x,y]).bind fun _=>(Prim.ev (.cell 1 0) [x,y]).bind fun a0=>k a0:=rfl
def Y2 (x y:T) (k:T→T→Option (List T)):Option (List T):=(Prim.ev .bnd [x,y]).bind fun _=>(Prim.ev (.cell 2 0) [x,y]).bind fun a0=>(Prim.ev (.cell 2 1) [x,y]).bind fun a1=>k a0 a1
theorem Y2_s (x y:T) (k:T→T→Option (List T)):Y2 x y k=(Prim.ev .bnd [x,y]).bind fun _=>(Prim.ev (.cell 2 0) [x,y]).bind fun a0=>(Prim.ev (.cell 2 1) [x,y]).bind fun a1=>k a0 a1:=rfl
def Y3 (x y:T) (k:T→T→T→Option (List T)):Option (List T):=(Prim.ev .bnd [x,y]).bind fun _=>(Prim.ev (.cell 3 0) [x,y]).bind fun a0=>(Prim.ev (.cell 3 1) [x,y]).bind fun a1=>(Prim.ev (.cell 3 2) [x,y]).bind fun a2=>k a0 a1 a2
theorem Y3_s (x y:T) (k:T→T→T→Option (List T)):Y3 x y k=(Prim.ev .bnd [x,y]).bind fun _=>(Prim.ev (.cell 3 0) [x,y]).bind fun a0=>(Prim.ev (.cell 3 1) [x,y]).bind fun a1=>(Prim.ev (.cell 3 2) [x,y]).bind fun a2=>k a0 a1 a2:=rfl
def Y4 (x y:T) (k:T→T→T→T→Option (List T)):Option (List T):=(Prim.ev .bnd [x,y]).bind fun _=>(Prim.ev (.cell 4 0) [x,y]).bind fun a0=>(Prim.ev (.cell 4 1) [x,y]).bind fun a1=>(Prim.ev (.cell 4 2) [x,y]).bind fun a2=>(Prim.ev (.cell 4 3) [x,y]).bind fun a3=>k a0 a1 a2 a3
theorem Y4_s (x y:T) (k:T→T→T→T→Option (List T)):Y4 x y k=(Prim.ev .bnd [x,y]).bind fun _=>(Prim.ev (.cell 4 0) [x,y]).bind fun a0=>(Prim.ev (.cell 4 1) [x,y]).bind fun a1=>(Prim.ev (.cell 4 2) [x,y]).bind fun a2=>(Prim.ev (.cell 4 3) [x,y]).bind fun a3=>k a0 a1 a2 a3:=rfl
def Y6 (x y:T) (k:T→T→T→T→T→T→Option (List T)):Option (List T):=(Prim.ev .bnd [x,y]).bind fun _=>(Prim.ev (.cell 6 0) [x,y]).bind fun a0=>(Prim.ev (.cell 6 1) [x,y]).bind fun a1=>(Prim.ev (.cell 6 2) [x,y]).bind fun a2=>(Prim.ev (.cell 6 3) [x,y]).bind fun a3=>(Prim.ev (.cell 6 4) [x,y]).bind fun a4=>(Prim.ev (.cell 6 5) [x,y]).bind fun a5=>k a0 a1 a2 a3 a4 a5
theorem Y6_s (x y:T) (k:T→T→T→T→T→T→Option (List T)):Y6 x y k=(Prim.ev .bnd [x,y]).bind fun _=>(Prim.ev (.cell 6 0) [x,y]).bind fun a0=>(Prim.ev (.cell 6 1) [x,y]).bind fun a1=>(Prim.ev (.cell 6 2) [x,y]).bind fun a2=>(Prim.ev (.cell 6 3) [x,y]).bind fun a3=>(Prim.ev (.cell 6 4) [x,y]).bind fun a4=>(Prim.ev (.cell 6 5) [x,y]).bind fun a5=>k a0 a1 a2 a3 a4 a5:=rfl
def Y8 (x y:T) (k:T→T→T→T→T→T→T→T→Option (List T)):Option (List T):=(Prim.ev .bnd [x,y]).bind fun _=>(Prim.ev (.cell 8 0) [x,y]).bind fun a0=>(Prim.ev (.cell 8 1) [x,y]).bind fun a1=>(Prim.ev (.cell 8 2) [x,y]).bind fun a2=>(Prim.ev (.cell 8 3) [x,y]).bind fun a3=>(Prim.ev (.cell 8 4) [x,y]).bind fun a4=>(Prim.ev (.cell 8 5) [x,y]).bind fun a5=>(Prim.ev (.cell 8 6) [x,y]).bind fun a6=>(Prim.ev (.cell 8 7) [x,y]).bind fun a7=>k a0 a1 a2 a3 a4 a5 a6 a7
theorem Y8_s (x y:T) (k:T→T→T→T→T→T→T→T→Option (List T)):Y8 x y k=(Prim.ev .bnd [x,y]).bind fun _=>(Prim.ev (.cell 8 0) [x,y]).bind fun a0=>(Prim.ev (.cell 8 1) [x,y]).bind fun a1=>(Prim.ev (.cell 8 2) [x,y]).bind fun a2=>(Prim.ev (.cell 8 3) [x,y]).bind fun a3=>(Prim.ev (.cell 8 4) [x,y]).bind fun a4=>(Prim.ev (.cell 8 5) [x,y]).bind fun a5=>(Prim.ev (.cell 8 6) [x,y]).bind fun a6=>(Prim.ev (.cell 8 7) [x,y]).bind fun a7=>k a0 a1 a2 a3 a4 a5 a6 a7:=rfl
def jn (k:Sem1) (b:Sem1→Option (List T)):Option (List T):=b k
def cl1 (o:Option (List T)) (k:T→Option (List T)):Option (List T):=o.bind fun ts=>k (ts.getD 0 T.dft)
theorem aOz_ (x0:T) (k:T→Option (List T)):cl1 (some [x0]) k=k x0:=rfl
def ar1 (k:T→Option (List T)):Sem1:=fun ts=>k (ts.getD 0 T.dft)
theorem aO8_ (x0:T) (k:T→Option (List T)):ar1 k [x0]=k x0:=rfl
def ar2 (k:T→T→Option (List T)):Sem1:=fun ts=>k (ts.getD 0 T.dft) (ts.getD 1 T.dft)
theorem aOy_ (x0 x1:T) (k:T→T→Option (List T)):ar2 k [x0,x1]=k x0 x1:=rfl
def cl3 (o:Option (List T)) (k:T→T→T→Option (List T)):Option (List T):=o.bind fun ts=>k (ts.getD 0 T.dft) (ts.getD 1 T.dft) (ts.getD 2 T.dft)
theorem aSn_ (x0 x1 x2:T) (k:T→T→T→Option (List T)):cl3 (some [x0,x1,x2]) k=k x0 x1 x2:=rfl
def ar3 (k:T→T→T→Option (List T)):Sem1:=fun ts=>k (ts.getD 0 T.dft) (ts.getD 1 T.dft) (ts.getD 2 T.dft)
theorem aO5_ (x0 x1 x2:T) (k:T→T→T→Option (List T)):ar3 k [x0,x1,x2]=k x0 x1 x2:=rfl
def cl4 (o:Option (List T)) (k:T→T→T→T→Option (List T)):Option (List T):=o.bind fun ts=>k (ts.getD 0 T.dft) (ts.getD 1 T.dft) (ts.getD 2 T.dft) (ts.getD 3 T.dft)
theorem aSr_ (x0 x1 x2 x3:T) (k:T→T→T→T→Option (List T)):cl4 (some [x0,x1,x2,x3]) k=k x0 x1 x2 x3:=rfl
def ar4 (k:T→T→T→T→Option (List T)):Sem1:=fun ts=>k (ts.getD 0 T.dft) (ts.getD 1 T.dft) (ts.getD 2 T.dft) (ts.getD 3 T.dft)
theorem aO2_ (x0 x1 x2 x3:T) (k:T→T→T→T→Option (List T)):ar4 k [x0,x1,x2,x3]=k x0 x1 x2 x3:=rfl
def ar5 (k:T→T→T→T→T→Option (List T)):Sem1:=fun ts=>k (ts.getD 0 T.dft) (ts.getD 1 T.dft) (ts.getD 2 T.dft) (ts.getD 3 T.dft) (ts.getD 4 T.dft)
theorem aO9_ (x0 x1 x2 x3 x4:T) (k:T→T→T→T→T→Option (List T)):ar5 k [x0,x1,x2,x3,x4]=k x0 x1 x2 x3 x4:=rfl
def ar6 (k:T→T→T→T→T→T→Option (List T)):Sem1:=fun ts=>k (ts.getD 0 T.dft) (ts.getD 1 T.dft) (ts.getD 2 T.dft) (ts.getD 3 T.dft) (ts.getD 4 T.dft) (ts.getD 5 T.dft)
theorem aOw_ (x0 x1 x2 x3 x4 x5:T) (k:T→T→T→T→T→T→Option (List T)):ar6 k [x0,x1,x2,x3,x4,x5]=k x0 x1 x2 x3 x4 x5:=rfl
def cl7 (o:Option (List T)) (k:T→T→T→T→T→T→T→Option (List T)):Option (List T):=o.bind fun ts=>k (ts.getD 0 T.dft) (ts.getD 1 T.dft) (ts.getD 2 T.dft) (ts.getD 3 T.dft) (ts.getD 4 T.dft) (ts.getD 5 T.dft) (ts.getD 6 T.dft)
theorem aSp_ (x0 x1 x2 x3 x4 x5 x6:T) (k:T→T→T→T→T→T→T→Option (List T)):cl7 (some [x0,x1,x2,x3,x4,x5,x6]) k=k x0 x1 x2 x3 x4 x5 x6:=rfl
def ar7 (k:T→T→T→T→T→T→T→Option (List T)):Sem1:=fun ts=>k (ts.getD 0 T.dft) (ts.getD 1 T.dft) (ts.getD 2 T.dft) (ts.getD 3 T.dft) (ts.getD 4 T.dft) (ts.getD 5 T.dft) (ts.getD 6 T.dft)
theorem aO4_ (x0 x1 x2 x3 x4 x5 x6:T) (k:T→T→T→T→T→T→T→Option (List T)):ar7 k [x0,x1,x2,x3,x4,x5,x6]=k x0 x1 x2 x3 x4 x5 x6:=rfl
def cl8 (o:Option (List T)) (k:T→T→T→T→T→T→T→T→Option (List T)):Option (List T):=o.bind fun ts=>k (ts.getD 0 T.dft) (ts.getD 1 T.dft) (ts.getD 2 T.dft) (ts.getD 3 T.dft) (ts.getD 4 T.dft) (ts.getD 5 T.dft) (ts.getD 6 T.dft) (ts.getD 7 T.dft)
theorem aSm_ (x0 x1 x2 x3 x4 x5 x6 x7:T) (k:T→T→T→T→T→T→T→T→Option (List T)):cl8 (some [x0,x1,x2,x3,x4,x5,x6,x7]) k=k x0 x1 x2 x3 x4 x5 x6 x7:=rfl
def cl9 (o:Option (List T)) (k:T→T→T→T→T→T→T→T→T→Option (List T)):Option (List T):=o.bind fun ts=>k (ts.getD 0 T.dft) (ts.getD 1 T.dft) (ts.getD 2 T.dft) (ts.getD 3 T.dft) (ts.getD 4 T.dft) (ts.getD 5 T.dft) (ts.getD 6 T.dft) (ts.getD 7 T.dft) (ts.getD 8 T.dft)
theorem aS0_ (x0 x1 x2 x3 x4 x5 x6 x7 x8:T) (k:T→T→T→T→T→T→T→T→T→Option (List T)):cl9 (some [x0,x1,x2,x3,x4,x5,x6,x7,x8]) k=k x0 x1 x2 x3 x4 x5 x6 x7 x8:=rfl
def ar10 (k:T→T→T→T→T→T→T→T→T→T→Option (List T)):Sem1:=fun ts=>k (ts.getD 0 T.dft) (ts.getD 1 T.dft) (ts.getD 2 T.dft) (ts.getD 3 T.dft) (ts.getD 4 T.dft) (ts.getD 5 T.dft) (ts.getD 6 T.dft) (ts.getD 7 T.dft) (ts.getD 8 T.dft) (ts.getD 9 T.dft)
theorem aI4_ (x0 x1 x2 x3 x4 x5 x6 x7 x8 x9:T) (k:T→T→T→T→T→T→T→T→T→T→Option (List T)):ar10 k [x0,x1,x2,x3,x4,x5,x6,x7,x8,x9]=k x0 x1 x2 x3 x4 x5 x6 x7 x8 x9:=rfl
theorem jn_s (k:Sem1) (b:Sem1→Option (List T)):jn k b=b k:=rfl
def PL.arity (j:Nat):PL→Option Nat
 | .ret _=>none
 | .ins _ k=>k.arity j
 | .ite _ x y=>match x.arity j with | some n=>some n | none=>y.arity j
 | .loop _ b=>b.arity (j+1)
 | .join k b=>match k.arity j with | some n=>some n | none=>b.arity (j+1)
 | .go i xs=>bif Nat.beq i j then some xs.length else none
 | .dbg _ _=>none
def PL.den2 (S:Nat→Sem1) (R:Nat) (K:List Sem1) (ρ:List T):PL→Option (List T)
 | .ret xs=>some (xs.map (Lf.ev ρ))
 | .ins (.pr p xs) k=>(p.ev (xs.map (Lf.ev ρ))).bind fun t=>k.den2 S R K (ρ++[t])
 | .ins (.cl g xs m) k=>(S g (xs.map (Lf.ev ρ))).bind fun ts=>k.den2 S R K (ρ++ym_ ts 0 m)
 | .ite c x y=>ifT (ρ.getD c T.dft) (x.den2 S R K ρ) (y.den2 S R K ρ)
 | .loop xs body=>iter (fun self ts=>body.den2 S R (self :: K) (ρ++ym_ ts 0 xs.length)) R (xs.map (Lf.ev ρ))
 | .join k body=>jn (fun ts=>k.den2 S R K (ρ++ym_ ts 0 ((body.arity 0).getD 0))) fun f=>body.den2 S R (f :: K) ρ
 | .go j xs=>match K[j]? with
  | some f=>f (xs.map (Lf.ev ρ))
  | none=>none
 | .dbg _ _=>none
def PL.wf (ar:List Nat):PL→Bool
 | .ret _=>true
 | .ins _ k=>k.wf ar
 | .ite _ x y=>x.wf ar && y.wf ar
 | .loop xs b=>b.wf (xs.length :: ar)
 | .join k b=>k.wf ar && b.wf ((b.arity 0).getD 0 :: ar)
 | .go j xs=>match ar[j]? with | some m=>Nat.beq m xs.length | none=>false
 | .dbg _ _=>true
theorem asw_:∀ (ts us:List T),ym_ (us++ts) us.length ts.length=ts
 | [],us=>rfl
 | t :: ts,us=>by
  have h:=asw_ ts (us++[t])
  rw [List.append_assoc,List.length_append] at h
  simp only [List.length_cons,ym_]
  refine congr (congrArg _ ?_) h
  simp
theorem aog_ (ts:List T) {m:Nat} (h:ts.length=m):ym_ ts 0 m=ts:=by
 subst h;exact asw_ ts []
theorem ax7_ {F G:Sem1→Sem1} {m:Nat} (h:∀ s s',(∀ ts:List T,ts.length=m→s ts=s' ts)→∀ ts:List T,ts.length=m→F s ts=G s' ts):∀ R (ts:List T),ts.length=m→iter F R ts=iter G R ts
 | 0,_,_=>rfl
 | R+1,ts,ht=>by
  unfold iter
  exact h _ _ (ax7_ h R) ts ht
theorem j8_ (S:Nat→Sem1) (R:Nat):∀ (p:PL) (ar:List Nat) (K K':List Sem1) (ρ:List T),p.wf ar=true →
  (∀ (j m:Nat),ar[j]?=some m→∃ f f':Sem1,K[j]?=some f∧K'[j]?=some f'∧∀ ts:List T,ts.length=m→f ts=f' ts)→p.den S R K ρ=p.den2 S R K' ρ
 | .ret xs,ar,K,K',ρ,_,_=>by simp only [PL.den,PL.den2]
 | .ins (.pr p xs) k,ar,K,K',ρ,hw,hk=>by
  simp only [PL.den,PL.den2]
  exact congrArg _ (funext fun t=>j8_ S R k ar K K' _ hw hk)
 | .ins (.cl g xs m) k,ar,K,K',ρ,hw,hk=>by
  simp only [PL.den,PL.den2]
  exact congrArg _ (funext fun t=>j8_ S R k ar K K' _ hw hk)
 | .ite c x y,ar,K,K',ρ,hw,hk=>by
  simp only [PL.wf,Bool.and_eq_true] at hw
  rw [wb_]
  simp only [PL.den2]
  rw [j8_ S R x ar K K' ρ hw.1 hk,j8_ S R y ar K K' ρ hw.2 hk]
 | .loop xs b,ar,K,K',ρ,hw,hk=>by
  simp only [PL.den,PL.den2]
  refine ax7_ (m:=xs.length) (fun s s' hs ts ht=>?_) R _ (by simp)
  rw [aog_ ts ht]
  refine j8_ S R b (xs.length :: ar) _ _ _ hw fun j m hj=>?_
  cases j with
  | zero=>cases hj;exact ⟨s,s',rfl,rfl,hs⟩
  | succ j=>exact hk j m hj
 | .join k b,ar,K,K',ρ,hw,hk=>by
  simp only [PL.wf,Bool.and_eq_true] at hw
  simp only [PL.den,PL.den2,jn]
  refine j8_ S R b ((b.arity 0).getD 0 :: ar) _ _ _ hw.2 fun j m hj=>?_
  cases j with
  | zero =>
   cases hj
   refine ⟨_,_,rfl,rfl,fun ts ht=>?_⟩
   show PL.den S R K (ρ++ts) k=PL.den2 S R K' (ρ++ym_ ts 0 _) k
   rw [aog_ ts ht]
   exact j8_ S R k ar K K' _ hw.1 hk
  | succ j=>exact hk j m hj
 | .go j xs,ar,K,K',ρ,hw,hk=>by
  simp only [PL.wf] at hw
  cases hm:ar[j]? with
  | none=>rw [hm] at hw;exact absurd hw (by simp)
  | some m =>
   rw [hm] at hw
   have hm':=Nat.eq_of_beq_eq_true hw
   obtain ⟨f,f',h1,h2,h3⟩:=hk j m hm
   simp only [PL.den,PL.den2,h1,h2]
   exact h3 _ (by simp [hm'])
 | .dbg _ _,ar,K,K',ρ,_,_=>by simp only [PL.den,PL.den2]
theorem zc_ {S:Nat→Sem1} {R:Nat} {p:PL} {ρ:List T} (h:p.wf []=true):p.den S R [] ρ=p.den2 S R [] ρ :=
 j8_ S R p [] [] [] ρ h fun j m hj=>by simp at hj
set_option linter.unusedSimpArgs false
abbrev ii (n:Int):T:=.c (.int .i64 n)
abbrev bb (b:Bool):T:=.c (.bool b)
def I64 (n:Int):Prop:=(Lit.int .i64 n).wf=true
theorem I64.lo {n:Int} (h:I64 n):-9223372036854775808≤n:=by
 simp [I64,Lit.wf,IntKind.min,IntKind.max,IntKind.signed,IntKind.bits] at h;omega
theorem I64.hi {n:Int} (h:I64 n):n < 9223372036854775808:=by
 simp [I64,Lit.wf,IntKind.min,IntKind.max,IntKind.signed,IntKind.bits] at h;omega
theorem I64.mk {n:Int} (h:-9223372036854775808≤n) (h':n < 9223372036854775808):I64 n:=by
 simp [I64,Lit.wf,IntKind.min,IntKind.max,IntKind.signed,IntKind.bits];omega
def gt {α:Type} [Inhabited α] (l:List α) (n:Int):α:=l.getD n.toNat default
theorem zd_ {α:Type} [Inhabited α] {enc:α→List T} {l:List α} {n:Int} (h:0≤n) (h':n < l.length):(l.map enc)[n.toNat]?=some (enc (gt l n)):=by
 have hn:n.toNat < l.length:=by omega
 rw [List.getElem?_map,List.getElem?_eq_getElem hn]
 simp [gt,List.getD,List.getElem?_eq_getElem hn]
theorem aRo_ {α:Type} [Inhabited α] {l:List α} {i:Nat} {a:α} (h:l[i]?=some a):gt l (i:Int)=a:=by
 simp [gt,List.getD,h]
theorem zm_ {α:Type} [Inhabited α] {l:List α} {i:Nat} (h:i < l.length):gt l (i:Int)=l[i]:=aRo_ (List.getElem?_eq_getElem h)
theorem zX_ {α:Type} [Inhabited α] {l:List α} {n:Int} (h:0≤n) (h':n < l.length):gt l n∈l:=by
 have hn:n.toNat < l.length:=by omega
 simp [gt,List.getD,List.getElem?_eq_getElem hn]
theorem aqe_ {xs:List (List T)} {n:Int} {r:List T} (h0:0≤n) (h:xs[n.toNat]?=some r):uM_ (.l xs) (ii n)=some r:=by
 simp [uM_,T.rows,T.int,h0,h]
theorem aDc_ {α:Type} [Inhabited α] {enc:α→List T} {l:List α} {n:Int} (h:0≤n) (h':n < l.length):Prim.ev .bnd [.l (l.map enc),ii n]=some (bb true):=by
 simp [Prim.ev,aqe_ h (zd_ (enc:=enc) h h')]
theorem zr_ {xs:List (List T)} {n:Int} {w j:Nat} {r:List T} {t:T} (h0:0≤n) (h:xs[n.toNat]?=some r) (hw:r.length=w) (hj:r[j]?=some t):Prim.ev (.cell w j) [.l xs,ii n]=some t:=by
 simp [Prim.ev,aqe_ h0 h,hw,hj]
theorem zD_ {xs:List (List T)} {n:Int} {w j:Nat} {r:List T} {t:T} (h0:0≤n) (h:xs[n.toNat]?=some r) (hw:r.length=w) (hj:r[j]?=some t) (hs:scal t=true):Prim.ev (.scell w j) [.l xs,ii n]=some t:=by
 simp [Prim.ev,aqe_ h0 h,hw,hj,hs]
theorem wV_ {xs ys:List (List T)} {n:Int} {w j:Nat} {r:List T} (h0:0≤n) (h:xs[n.toNat]?=some r) (hw:r.length=w) (hj:r[j]?=some (.l ys)):Prim.ev (.dig w j) [.l xs,ii n]=some (.l ys):=by
 simp [Prim.ev,aqe_ h0 h,hw,hj,T.rows]
theorem aC7_ {α:Type} {enc:α→List T} {l:List α}:Prim.ev .len [.l (l.map enc)]=some (ii l.length):=by
 rw [wT_,List.length_map]
theorem alf_ {α:Type} {enc:α→List T} {w:Nat} (hw:∀ x,(enc x).length=w) (l:List α):okW w (l.map enc)=true:=by
 cases l with
 | nil=>rfl
 | cons x l=>simp [okW,hw]
theorem xL_ {α:Type} {enc:α→List T} {w:Nat} {sc:Bool} (hw:∀ x,(enc x).length=w) (hs:sc=false∨∀ x,(enc x).all scal=true) {l m:List α} (h:l.length+m.length < vy_):Prim.ev (.app sc w) [.l (l.map enc),.l (m.map enc)]=some (.l ((l++m).map enc)):=by
 rw [List.map_append]
 refine aR6_ (by simpa using h) ?_ (alf_ hw l) (alf_ hw m)
 rcases hs with rfl | hs
 ·rfl
 ·have:(m.map enc).all (·.all scal)=true:=by simp only [List.all_map,List.all_eq_true];exact fun x _=>hs x
  rw [this];simp
theorem xF_ {α:Type} {enc:α→List T} {w:Nat} {sc:Bool} (hw:∀ x,(enc x).length=w) (hs:sc=false∨∀ x,(enc x).all scal=true) {m:List α} (h:m.length < vy_):Prim.ev (.app sc w) [.l [],.l (m.map enc)]=some (.l (m.map enc)) :=
 xL_ (l:=[]) hw hs (by simpa using h)
theorem wZ_ {α:Type} {enc:α→List T} {w:Nat} (hw:∀ x,(enc x).length=w) {l:List α} {a:Int} (h:0≤a) (h':a≤l.length):Prim.ev (.sub w true false) [.l (l.map enc),ii a]=some (.l ((l.drop a.toNat).map enc)):=by
 simp only [Prim.ev,alf_ hw l,if_true,List.length_map,za_,h,h']
 rw [if_pos (by omega)]
 have:((l.map enc).take (l.length:Int).toNat).drop a.toNat=(l.drop a.toNat).map enc:=by
  rw [List.map_drop,Int.toNat_natCast,List.take_of_length_le (by simp)]
 rw [this]
theorem wY_ {α:Type} {enc:α→List T} {w:Nat} (hw:∀ x,(enc x).length=w) {l:List α} {a:Int} (h:0≤a) (h':a≤l.length):Prim.ev (.sub w false true) [.l (l.map enc),ii a]=some (.l ((l.take a.toNat).map enc)):=by
 simp only [Prim.ev,alf_ hw l,if_true,List.length_map,za_,h,h',Int.le_refl,Int.toNat_zero,List.drop_zero,List.map_take]
theorem anu_ {α:Type} {enc:α→List T} {ok:α→Prop} {ty:List Ty} (h:∀ r,WTs ty r→∃ x,r=enc x∧ok x):∀ {xs:List (List T)},(∀ r∈xs,WTs ty r)→∃ l:List α,xs=l.map enc∧∀ x∈l,ok x
 | [],_=>⟨[],rfl,by simp⟩
 | r :: xs,hx=>by
  obtain ⟨x,rfl,h1⟩:=h r (hx _ (.head _))
  obtain ⟨l,rfl,h2⟩:=anu_ h (xs:=xs) fun r hr=>hx r (.tail _ hr)
  refine ⟨x :: l,rfl,?_⟩
  intro y hy
  rcases List.mem_cons.1 hy with rfl | hy
  ·exact h1
  ·exact h2 y hy
theorem wJ_ {α:Type} {enc:α→List T} {ok:α→Prop} {ty:List Ty} (h:∀ x,ok x→WTs ty (enc x)) {l:List α} (hl:∀ x∈l,ok x):∀ r∈l.map enc,WTs ty r:=by
 intro r hr
 obtain ⟨x,hx,rfl⟩:=List.mem_map.1 hr
 exact h x (hl x hx)
def blks {α:Type} (f:α→Nat):List α→Nat
 | []=>0
 | x :: l=>1+(f x+blks f l)
theorem wI_ {α:Type} {enc:α→List T} {f:α→Nat} (h:∀ x,xc_ (enc x)=f x) (l:List α):zH_ (l.map enc)=blks f l:=by
 induction l with
 | nil=>simp [zH_,blks]
 | cons x l ih=>simp only [List.map_cons,zH_,blks,h,ih]
theorem anq_ {α:Type} {f:α→Nat} (l:List α):l.length≤blks f l:=by
 induction l with
 | nil=>exact Nat.le_refl _
 | cons x l ih=>simp only [List.length_cons,blks];omega
def eInt (n:Int):List T:=[ii n]
def yInt:List Ty:=[.i .i64]
def aO3_ (n:Int):Prop:=I64 n
theorem wInt (n:Int) (h:aO3_ n):WTs yInt (eInt n):=wl_ ⟨_,_,rfl,⟨_,rfl,h⟩,rfl⟩
def jn_ (_:Int):Nat:=0
theorem bInt (n:Int):xc_ (eInt n)=jn_ n:=by simp only [eInt,zo_,zx_,yw_,jn_]
def yx_ (b:Bool):List T:=[bb b]
theorem ask_:∀ {fs gs:List Ty} {ts:List T},WTs (fs++gs) ts→∃ a b,ts=a++b∧WTs fs a∧WTs gs b
 | [],gs,ts,h=>⟨[],ts,rfl,by unfold WTs;rfl,h⟩
 | f :: fs,gs,ts,h=>by
  have h:WTs (f :: (fs++gs)) ts:=h
  unfold WTs at h
  obtain ⟨t,ts',rfl,h1,h2⟩:=h
  obtain ⟨a,b,rfl,h3,h4⟩:=ask_ h2
  refine ⟨t :: a,b,rfl,?_,h4⟩
  unfold WTs
  exact ⟨t,a,rfl,h1,h3⟩
theorem aGv_ {l:List Int} {n:Int} (h:0≤n) (h':n < l.length):Prim.ev (.cell 1 0) [.l (l.map eInt),ii n]=some (ii (gt l n)):=zr_ h (zd_ h h') rfl rfl
theorem aCn_ {l:List Int} {n:Int} (h:0≤n) (h':n < l.length):Prim.ev (.scell 1 0) [.l (l.map eInt),ii n]=some (ii (gt l n)):=zD_ h (zd_ h h') rfl rfl rfl
theorem ajo_ {l m:List Int} (h:l.length+m.length < 4294967296):Prim.ev (.app false 1) [.l (l.map eInt),.l (m.map eInt)]=some (.l ((l++m).map eInt)):=xL_ (w:=1) (fun _=>rfl) (.inl rfl) h
theorem afn_ {m:List Int} (h:m.length < 4294967296):Prim.ev (.app false 1) [.l [],.l (m.map eInt)]=some (.l (m.map eInt)):=xF_ (w:=1) (fun _=>rfl) (.inl rfl) h
theorem xn_ {l m:List Int} (h:l.length+m.length < 4294967296):Prim.ev (.app true 1) [.l (l.map eInt),.l (m.map eInt)]=some (.l ((l++m).map eInt)):=xL_ (w:=1) (fun _=>rfl) (.inr fun _=>rfl) h
theorem ajk_ {m:List Int} (h:m.length < 4294967296):Prim.ev (.app true 1) [.l [],.l (m.map eInt)]=some (.l (m.map eInt)):=xF_ (w:=1) (fun _=>rfl) (.inr fun _=>rfl) h
theorem aq1_ {l:List Int} {x:Int} (h:l.length < 4294967295):Prim.ev (.app false 1) [.l (l.map eInt),.l ([x].map eInt)]=some (.l ((l++[x]).map eInt)):=ajo_ (by simp;omega)
theorem aod_ {x:Int}:Prim.ev (.app false 1) [.l [],.l ([x].map eInt)]=some (.l ([x].map eInt)):=afn_ (by simp)
theorem xz_ {l:List Int} {x:Int} (h:l.length < 4294967295):Prim.ev (.app true 1) [.l (l.map eInt),.l ([x].map eInt)]=some (.l ((l++[x]).map eInt)):=xn_ (by simp;omega)
theorem arb_ {x:Int}:Prim.ev (.app true 1) [.l [],.l ([x].map eInt)]=some (.l ([x].map eInt)):=ajk_ (by simp)
theorem aOa_ {l:List Int} {a:Int} (h:0≤a) (h':a≤l.length):Prim.ev (.sub 1 true false) [.l (l.map eInt),ii a]=some (.l ((l.drop a.toNat).map eInt)):=wZ_ (enc:=eInt) (w:=1) (fun _=>rfl) h h'
theorem aL3_ {l:List Int} {a:Int} (h:0≤a) (h':a≤l.length):Prim.ev (.sub 1 false true) [.l (l.map eInt),ii a]=some (.l ((l.take a.toNat).map eInt)):=wY_ (enc:=eInt) (w:=1) (fun _=>rfl) h h'
theorem aPj_ (x:Int):Prim.ev (.lit 1 [true]) [ii x]=some (.l ([x].map eInt)):=y3_ (by decide) rfl rfl
theorem aOn_ (x:Int):Prim.ev (.lit 1 []) [ii x]=some (.l ([x].map eInt)):=y3_ (by decide) rfl rfl
theorem aB4_ {l:List Bool} {n:Int} (h:0≤n) (h':n < l.length):Prim.ev (.cell 1 0) [.l (l.map yx_),ii n]=some (bb (gt l n)):=zr_ h (zd_ h h') rfl rfl
theorem au6_ {l:List Bool} {n:Int} (h:0≤n) (h':n < l.length):Prim.ev (.scell 1 0) [.l (l.map yx_),ii n]=some (bb (gt l n)):=zD_ h (zd_ h h') rfl rfl rfl
theorem afz_ {l m:List Bool} (h:l.length+m.length < 4294967296):Prim.ev (.app false 1) [.l (l.map yx_),.l (m.map yx_)]=some (.l ((l++m).map yx_)):=xL_ (w:=1) (fun _=>rfl) (.inl rfl) h
theorem ads_ {m:List Bool} (h:m.length < 4294967296):Prim.ev (.app false 1) [.l [],.l (m.map yx_)]=some (.l (m.map yx_)):=xF_ (w:=1) (fun _=>rfl) (.inl rfl) h
theorem ajg_ {l m:List Bool} (h:l.length+m.length < 4294967296):Prim.ev (.app true 1) [.l (l.map yx_),.l (m.map yx_)]=some (.l ((l++m).map yx_)):=xL_ (w:=1) (fun _=>rfl) (.inr fun _=>rfl) h
theorem af1_ {m:List Bool} (h:m.length < 4294967296):Prim.ev (.app true 1) [.l [],.l (m.map yx_)]=some (.l (m.map yx_)):=xF_ (w:=1) (fun _=>rfl) (.inr fun _=>rfl) h
theorem ao0_ {l:List Bool} {x:Bool} (h:l.length < 4294967295):Prim.ev (.app false 1) [.l (l.map yx_),.l ([x].map yx_)]=some (.l ((l++[x]).map yx_)):=afz_ (by simp;omega)
theorem anf_ {x:Bool}:Prim.ev (.app false 1) [.l [],.l ([x].map yx_)]=some (.l ([x].map yx_)):=ads_ (by simp)
theorem arr_ {l:List Bool} {x:Bool} (h:l.length < 4294967295):Prim.ev (.app true 1) [.l (l.map yx_),.l ([x].map yx_)]=some (.l ((l++[x]).map yx_)):=ajg_ (by simp;omega)
theorem apt_ {x:Bool}:Prim.ev (.app true 1) [.l [],.l ([x].map yx_)]=some (.l ([x].map yx_)):=af1_ (by simp)
theorem aLz_ {l:List Bool} {a:Int} (h:0≤a) (h':a≤l.length):Prim.ev (.sub 1 true false) [.l (l.map yx_),ii a]=some (.l ((l.drop a.toNat).map yx_)):=wZ_ (enc:=yx_) (w:=1) (fun _=>rfl) h h'
theorem aLy_ {l:List Bool} {a:Int} (h:0≤a) (h':a≤l.length):Prim.ev (.sub 1 false true) [.l (l.map yx_),ii a]=some (.l ((l.take a.toNat).map yx_)):=wY_ (enc:=yx_) (w:=1) (fun _=>rfl) h h'
theorem aN8_ (x:Bool):Prim.ev (.lit 1 [true]) [bb x]=some (.l ([x].map yx_)):=y3_ (by decide) rfl rfl
theorem aJ6_ (x:Bool):Prim.ev (.lit 1 []) [bb x]=some (.l ([x].map yx_)):=y3_ (by decide) rfl rfl
structure Link where
 a:Int
 b:Int
 cost:Int
 area:Int
 deriving Inhabited
def zn_ (x:Link):List T:=[ii x.a,ii x.b,ii x.cost,ii x.area]
def wh_:List Ty:=[.i .i64,.i .i64,.i .i64,.i .i64]
def aqk_ (x:Link):Prop:=I64 x.a∧I64 x.b∧I64 x.cost∧I64 x.area
theorem aSl_ (r:List T) (h:WTs wh_ r):∃ x,r=zn_ x∧aqk_ x:=by
 obtain ⟨_,_,rfl,⟨v0,rfl,h0⟩,_,_,rfl,⟨v1,rfl,h1⟩,_,_,rfl,⟨v2,rfl,h2⟩,_,_,rfl,⟨v3,rfl,h3⟩,rfl⟩:=wo_ h
 exact ⟨⟨v0,v1,v2,v3⟩,rfl,h0,h1,h2,h3⟩
theorem aFp_ (x:Link) (h:aqk_ x):WTs wh_ (zn_ x):=by
 obtain ⟨h0,h1,h2,h3⟩:=h
 exact wl_ ⟨_,_,rfl,⟨_,rfl,h0⟩,_,_,rfl,⟨_,rfl,h1⟩,_,_,rfl,⟨_,rfl,h2⟩,_,_,rfl,⟨_,rfl,h3⟩,rfl⟩
def vl_ (x:Link):Nat:=0
theorem aua_ (x:Link):xc_ (zn_ x)=vl_ x:=by
 simp only [zn_,vl_,zo_,zx_,yw_,yB_,z3_,Nat.add_zero,Nat.zero_add]
theorem azc_ {l:List Link} {n:Int} (h:0≤n) (h':n < l.length):Prim.ev (.cell 4 0) [.l (l.map zn_),ii n]=some (ii (gt l n).a):=zr_ h (zd_ h h') rfl rfl
theorem ay6_ {l:List Link} {n:Int} (h:0≤n) (h':n < l.length):Prim.ev (.scell 4 0) [.l (l.map zn_),ii n]=some (ii (gt l n).a):=zD_ h (zd_ h h') rfl rfl rfl
theorem azj_ {l:List Link} {n:Int} (h:0≤n) (h':n < l.length):Prim.ev (.cell 4 1) [.l (l.map zn_),ii n]=some (ii (gt l n).b):=zr_ h (zd_ h h') rfl rfl
theorem awo_ {l:List Link} {n:Int} (h:0≤n) (h':n < l.length):Prim.ev (.scell 4 1) [.l (l.map zn_),ii n]=some (ii (gt l n).b):=zD_ h (zd_ h h') rfl rfl rfl
theorem aAe_ {l:List Link} {n:Int} (h:0≤n) (h':n < l.length):Prim.ev (.cell 4 2) [.l (l.map zn_),ii n]=some (ii (gt l n).cost):=zr_ h (zd_ h h') rfl rfl
theorem aw3_ {l:List Link} {n:Int} (h:0≤n) (h':n < l.length):Prim.ev (.scell 4 2) [.l (l.map zn_),ii n]=some (ii (gt l n).cost):=zD_ h (zd_ h h') rfl rfl rfl
theorem aCe_ {l:List Link} {n:Int} (h:0≤n) (h':n < l.length):Prim.ev (.cell 4 3) [.l (l.map zn_),ii n]=some (ii (gt l n).area):=zr_ h (zd_ h h') rfl rfl
theorem ay3_ {l:List Link} {n:Int} (h:0≤n) (h':n < l.length):Prim.ev (.scell 4 3) [.l (l.map zn_),ii n]=some (ii (gt l n).area):=zD_ h (zd_ h h') rfl rfl rfl
theorem aga_ {l m:List Link} (h:l.length+m.length < 4294967296):Prim.ev (.app false 4) [.l (l.map zn_),.l (m.map zn_)]=some (.l ((l++m).map zn_)):=xL_ (w:=4) (fun _=>rfl) (.inl rfl) h
theorem adw_ {m:List Link} (h:m.length < 4294967296):Prim.ev (.app false 4) [.l [],.l (m.map zn_)]=some (.l (m.map zn_)):=xF_ (w:=4) (fun _=>rfl) (.inl rfl) h
theorem ajb_ {l m:List Link} (h:l.length+m.length < 4294967296):Prim.ev (.app true 4) [.l (l.map zn_),.l (m.map zn_)]=some (.l ((l++m).map zn_)):=xL_ (w:=4) (fun _=>rfl) (.inr fun _=>rfl) h
theorem afx_ {m:List Link} (h:m.length < 4294967296):Prim.ev (.app true 4) [.l [],.l (m.map zn_)]=some (.l (m.map zn_)):=xF_ (w:=4) (fun _=>rfl) (.inr fun _=>rfl) h
theorem aot_ {l:List Link} {x:Link} (h:l.length < 4294967295):Prim.ev (.app false 4) [.l (l.map zn_),.l ([x].map zn_)]=some (.l ((l++[x]).map zn_)):=aga_ (by simp;omega)
theorem ano_ {x:Link}:Prim.ev (.app false 4) [.l [],.l ([x].map zn_)]=some (.l ([x].map zn_)):=adw_ (by simp)
theorem aqv_ {l:List Link} {x:Link} (h:l.length < 4294967295):Prim.ev (.app true 4) [.l (l.map zn_),.l ([x].map zn_)]=some (.l ((l++[x]).map zn_)):=ajb_ (by simp;omega)
theorem aoy_ {x:Link}:Prim.ev (.app true 4) [.l [],.l ([x].map zn_)]=some (.l ([x].map zn_)):=afx_ (by simp)
theorem aJi_ {l:List Link} {a:Int} (h:0≤a) (h':a≤l.length):Prim.ev (.sub 4 true false) [.l (l.map zn_),ii a]=some (.l ((l.drop a.toNat).map zn_)):=wZ_ (enc:=zn_) (w:=4) (fun _=>rfl) h h'
theorem aJn_ {l:List Link} {a:Int} (h:0≤a) (h':a≤l.length):Prim.ev (.sub 4 false true) [.l (l.map zn_),ii a]=some (.l ((l.take a.toNat).map zn_)):=wY_ (enc:=zn_) (w:=4) (fun _=>rfl) h h'
theorem aL1_ (v0:Int) (v1:Int) (v2:Int) (v3:Int):Prim.ev (.lit 4 [true,true,true,true]) [ii v0,ii v1,ii v2,ii v3]=some (.l ([(⟨v0,v1,v2,v3⟩:Link)].map zn_)):=y3_ (by decide) rfl rfl
theorem aJg_ (v0:Int) (v1:Int) (v2:Int) (v3:Int):Prim.ev (.lit 4 []) [ii v0,ii v1,ii v2,ii v3]=some (.l ([(⟨v0,v1,v2,v3⟩:Link)].map zn_)):=y3_ (by decide) rfl rfl
theorem aN3_ (x:Link):(⟨x.a,x.b,x.cost,x.area⟩:Link)=x:=rfl
structure Thing where
 owner:Int
 key:Int
 cost:Int
 far:Bool
 deriving Inhabited
def zl_ (x:Thing):List T:=[ii x.owner,ii x.key,ii x.cost,bb x.far]
def xA_:List Ty:=[.i .i64,.i .i64,.i .i64,.b]
def alq_ (x:Thing):Prop:=I64 x.owner∧I64 x.key∧I64 x.cost
theorem aRv_ (r:List T) (h:WTs xA_ r):∃ x,r=zl_ x∧alq_ x:=by
 obtain ⟨_,_,rfl,⟨v0,rfl,h0⟩,_,_,rfl,⟨v1,rfl,h1⟩,_,_,rfl,⟨v2,rfl,h2⟩,_,_,rfl,⟨v3,rfl⟩,rfl⟩:=wo_ h
 exact ⟨⟨v0,v1,v2,v3⟩,rfl,h0,h1,h2⟩
theorem axd_ (x:Thing) (h:alq_ x):WTs xA_ (zl_ x):=by
 obtain ⟨h0,h1,h2⟩:=h
 exact wl_ ⟨_,_,rfl,⟨_,rfl,h0⟩,_,_,rfl,⟨_,rfl,h1⟩,_,_,rfl,⟨_,rfl,h2⟩,_,_,rfl,⟨_,rfl⟩,rfl⟩
def wG_ (x:Thing):Nat:=0
theorem aoz_ (x:Thing):xc_ (zl_ x)=wG_ x:=by
 simp only [zl_,wG_,zo_,zx_,yw_,yB_,z3_,Nat.add_zero,Nat.zero_add]
theorem ayx_ {l:List Thing} {n:Int} (h:0≤n) (h':n < l.length):Prim.ev (.cell 4 0) [.l (l.map zl_),ii n]=some (ii (gt l n).owner):=zr_ h (zd_ h h') rfl rfl
theorem atx_ {l:List Thing} {n:Int} (h:0≤n) (h':n < l.length):Prim.ev (.scell 4 0) [.l (l.map zl_),ii n]=some (ii (gt l n).owner):=zD_ h (zd_ h h') rfl rfl rfl
theorem awh_ {l:List Thing} {n:Int} (h:0≤n) (h':n < l.length):Prim.ev (.cell 4 1) [.l (l.map zl_),ii n]=some (ii (gt l n).key):=zr_ h (zd_ h h') rfl rfl
theorem as2_ {l:List Thing} {n:Int} (h:0≤n) (h':n < l.length):Prim.ev (.scell 4 1) [.l (l.map zl_),ii n]=some (ii (gt l n).key):=zD_ h (zd_ h h') rfl rfl rfl
theorem awn_ {l:List Thing} {n:Int} (h:0≤n) (h':n < l.length):Prim.ev (.cell 4 2) [.l (l.map zl_),ii n]=some (ii (gt l n).cost):=zr_ h (zd_ h h') rfl rfl
theorem atr_ {l:List Thing} {n:Int} (h:0≤n) (h':n < l.length):Prim.ev (.scell 4 2) [.l (l.map zl_),ii n]=some (ii (gt l n).cost):=zD_ h (zd_ h h') rfl rfl rfl
theorem ax1_ {l:List Thing} {n:Int} (h:0≤n) (h':n < l.length):Prim.ev (.cell 4 3) [.l (l.map zl_),ii n]=some (bb (gt l n).far):=zr_ h (zd_ h h') rfl rfl
theorem ato_ {l:List Thing} {n:Int} (h:0≤n) (h':n < l.length):Prim.ev (.scell 4 3) [.l (l.map zl_),ii n]=some (bb (gt l n).far):=zD_ h (zd_ h h') rfl rfl rfl
theorem aed_ {l m:List Thing} (h:l.length+m.length < 4294967296):Prim.ev (.app false 4) [.l (l.map zl_),.l (m.map zl_)]=some (.l ((l++m).map zl_)):=xL_ (w:=4) (fun _=>rfl) (.inl rfl) h
theorem acd_ {m:List Thing} (h:m.length < 4294967296):Prim.ev (.app false 4) [.l [],.l (m.map zl_)]=some (.l (m.map zl_)):=xF_ (w:=4) (fun _=>rfl) (.inl rfl) h
theorem agk_ {l m:List Thing} (h:l.length+m.length < 4294967296):Prim.ev (.app true 4) [.l (l.map zl_),.l (m.map zl_)]=some (.l ((l++m).map zl_)):=xL_ (w:=4) (fun _=>rfl) (.inr fun _=>rfl) h
theorem adh_ {m:List Thing} (h:m.length < 4294967296):Prim.ev (.app true 4) [.l [],.l (m.map zl_)]=some (.l (m.map zl_)):=xF_ (w:=4) (fun _=>rfl) (.inr fun _=>rfl) h
theorem anc_ {l:List Thing} {x:Thing} (h:l.length < 4294967295):Prim.ev (.app false 4) [.l (l.map zl_),.l ([x].map zl_)]=some (.l ((l++[x]).map zl_)):=aed_ (by simp;omega)
theorem al5_ {x:Thing}:Prim.ev (.app false 4) [.l [],.l ([x].map zl_)]=some (.l ([x].map zl_)):=acd_ (by simp)
theorem aqo_ {l:List Thing} {x:Thing} (h:l.length < 4294967295):Prim.ev (.app true 4) [.l (l.map zl_),.l ([x].map zl_)]=some (.l ((l++[x]).map zl_)):=agk_ (by simp;omega)
theorem anp_ {x:Thing}:Prim.ev (.app true 4) [.l [],.l ([x].map zl_)]=some (.l ([x].map zl_)):=adh_ (by simp)
theorem aD6_ {l:List Thing} {a:Int} (h:0≤a) (h':a≤l.length):Prim.ev (.sub 4 true false) [.l (l.map zl_),ii a]=some (.l ((l.drop a.toNat).map zl_)):=wZ_ (enc:=zl_) (w:=4) (fun _=>rfl) h h'
theorem aH2_ {l:List Thing} {a:Int} (h:0≤a) (h':a≤l.length):Prim.ev (.sub 4 false true) [.l (l.map zl_),ii a]=some (.l ((l.take a.toNat).map zl_)):=wY_ (enc:=zl_) (w:=4) (fun _=>rfl) h h'
theorem aI3_ (x:Thing):(⟨x.owner,x.key,x.cost,x.far⟩:Thing)=x:=rfl
structure Net where
 n:Int
 links:List Link
 things:List Thing
 deriving Inhabited
def eNet (x:Net):List T:=[ii x.n,.l (x.links.map zn_),.l (x.things.map zl_)]
def yNet:List Ty:=[.i .i64,.sl wh_,.sl xA_]
def aPa_ (x:Net):Prop:=I64 x.n∧(x.links.length≤maxLen∧∀ y∈x.links,aqk_ y)∧(x.things.length≤maxLen∧∀ y∈x.things,alq_ y)
theorem dNet (r:List T) (h:WTs yNet r):∃ x,r=eNet x∧aPa_ x:=by
 obtain ⟨_,_,rfl,⟨v0,rfl,h0⟩,t1,_,rfl,q1,t2,_,rfl,q2,rfl⟩:=wo_ h
 unfold WT at q1
 obtain ⟨z1,rfl,m1,g1⟩:=q1
 obtain ⟨v1,rfl,h1⟩:=anu_ aSl_ g1
 rw [List.length_map] at m1
 unfold WT at q2
 obtain ⟨z2,rfl,m2,g2⟩:=q2
 obtain ⟨v2,rfl,h2⟩:=anu_ aRv_ g2
 rw [List.length_map] at m2
 exact ⟨⟨v0,v1,v2⟩,rfl,h0,⟨m1,h1⟩,⟨m2,h2⟩⟩
def afd_ (x:Net):Nat:=blks vl_ x.links+blks wG_ x.things
theorem bNet (x:Net):xc_ (eNet x)=afd_ x:=by
 simp only [eNet,afd_,zo_,zx_,yw_,yB_,z3_,Nat.add_zero,Nat.zero_add,wI_ aua_,wI_ aoz_]
 try omega
theorem aHn_ {l:List Net} {n:Int} (h:0≤n) (h':n < l.length):Prim.ev (.cell 3 0) [.l (l.map eNet),ii n]=some (ii (gt l n).n):=zr_ h (zd_ h h') rfl rfl
theorem aCk_ {l:List Net} {n:Int} (h:0≤n) (h':n < l.length):Prim.ev (.scell 3 0) [.l (l.map eNet),ii n]=some (ii (gt l n).n):=zD_ h (zd_ h h') rfl rfl rfl
theorem aEi_ {l:List Net} {n:Int} (h:0≤n) (h':n < l.length):Prim.ev (.cell 3 1) [.l (l.map eNet),ii n]=some (.l ((gt l n).links.map zn_)):=zr_ h (zd_ h h') rfl rfl
theorem aI9_ {l:List Net} {n:Int} (h:0≤n) (h':n < l.length):Prim.ev (.dig 3 1) [.l (l.map eNet),ii n]=some (.l ((gt l n).links.map zn_)):=wV_ h (zd_ h h') rfl rfl
theorem aFx_ {l:List Net} {n:Int} (h:0≤n) (h':n < l.length):Prim.ev (.cell 3 2) [.l (l.map eNet),ii n]=some (.l ((gt l n).things.map zl_)):=zr_ h (zd_ h h') rfl rfl
theorem aK3_ {l:List Net} {n:Int} (h:0≤n) (h':n < l.length):Prim.ev (.dig 3 2) [.l (l.map eNet),ii n]=some (.l ((gt l n).things.map zl_)):=wV_ h (zd_ h h') rfl rfl
theorem ajl_ {l m:List Net} (h:l.length+m.length < 4294967296):Prim.ev (.app false 3) [.l (l.map eNet),.l (m.map eNet)]=some (.l ((l++m).map eNet)):=xL_ (w:=3) (fun _=>rfl) (.inl rfl) h
theorem afg_ {m:List Net} (h:m.length < 4294967296):Prim.ev (.app false 3) [.l [],.l (m.map eNet)]=some (.l (m.map eNet)):=xF_ (w:=3) (fun _=>rfl) (.inl rfl) h
theorem aq9_ {l:List Net} {x:Net} (h:l.length < 4294967295):Prim.ev (.app false 3) [.l (l.map eNet),.l ([x].map eNet)]=some (.l ((l++[x]).map eNet)):=ajl_ (by simp;omega)
theorem apz_ {x:Net}:Prim.ev (.app false 3) [.l [],.l ([x].map eNet)]=some (.l ([x].map eNet)):=afg_ (by simp)
theorem aN9_ {l:List Net} {a:Int} (h:0≤a) (h':a≤l.length):Prim.ev (.sub 3 true false) [.l (l.map eNet),ii a]=some (.l ((l.drop a.toNat).map eNet)):=wZ_ (enc:=eNet) (w:=3) (fun _=>rfl) h h'
theorem aNq_ {l:List Net} {a:Int} (h:0≤a) (h':a≤l.length):Prim.ev (.sub 3 false true) [.l (l.map eNet),ii a]=some (.l ((l.take a.toNat).map eNet)):=wY_ (enc:=eNet) (w:=3) (fun _=>rfl) h h'
theorem aP8_ (v0:Int) (v1:List Link) (v2:List Thing):Prim.ev (.lit 3 [true,false,false]) [ii v0,.l (v1.map zn_),.l (v2.map zl_)]=some (.l ([(⟨v0,v1,v2⟩:Net)].map eNet)):=y3_ (by decide) rfl rfl
theorem aN1_ (v0:Int) (v1:List Link) (v2:List Thing):Prim.ev (.lit 3 []) [ii v0,.l (v1.map zn_),.l (v2.map zl_)]=some (.l ([(⟨v0,v1,v2⟩:Net)].map eNet)):=y3_ (by decide) rfl rfl
theorem aQd_ (x:Net):(⟨x.n,x.links,x.things⟩:Net)=x:=rfl
structure Near where
 to:Int
 cost:Int
 deriving Inhabited
def zF_ (x:Near):List T:=[ii x.to,ii x.cost]
def aO7_:List Ty:=[.i .i64,.i .i64]
def axt_ (x:Near):Prop:=I64 x.to∧I64 x.cost
theorem aSo_ (x:Near) (h:axt_ x):WTs aO7_ (zF_ x):=by
 obtain ⟨h0,h1⟩:=h
 exact wl_ ⟨_,_,rfl,⟨_,rfl,h0⟩,_,_,rfl,⟨_,rfl,h1⟩,rfl⟩
def afm_ (x:Near):Nat:=0
theorem aSi_ (x:Near):xc_ (zF_ x)=afm_ x:=by
 simp only [zF_,afm_,zo_,zx_,yw_,yB_,z3_,Nat.add_zero,Nat.zero_add]
theorem azx_ {l:List Near} {n:Int} (h:0≤n) (h':n < l.length):Prim.ev (.cell 2 0) [.l (l.map zF_),ii n]=some (ii (gt l n).to):=zr_ h (zd_ h h') rfl rfl
theorem axi_ {l:List Near} {n:Int} (h:0≤n) (h':n < l.length):Prim.ev (.scell 2 0) [.l (l.map zF_),ii n]=some (ii (gt l n).to):=zD_ h (zd_ h h') rfl rfl rfl
theorem aBk_ {l:List Near} {n:Int} (h:0≤n) (h':n < l.length):Prim.ev (.cell 2 1) [.l (l.map zF_),ii n]=some (ii (gt l n).cost):=zr_ h (zd_ h h') rfl rfl
theorem axz_ {l:List Near} {n:Int} (h:0≤n) (h':n < l.length):Prim.ev (.scell 2 1) [.l (l.map zF_),ii n]=some (ii (gt l n).cost):=zD_ h (zd_ h h') rfl rfl rfl
theorem afv_ {l m:List Near} (h:l.length+m.length < 4294967296):Prim.ev (.app false 2) [.l (l.map zF_),.l (m.map zF_)]=some (.l ((l++m).map zF_)):=xL_ (w:=2) (fun _=>rfl) (.inl rfl) h
theorem adt_ {m:List Near} (h:m.length < 4294967296):Prim.ev (.app false 2) [.l [],.l (m.map zF_)]=some (.l (m.map zF_)):=xF_ (w:=2) (fun _=>rfl) (.inl rfl) h
theorem ajm_ {l m:List Near} (h:l.length+m.length < 4294967296):Prim.ev (.app true 2) [.l (l.map zF_),.l (m.map zF_)]=some (.l ((l++m).map zF_)):=xL_ (w:=2) (fun _=>rfl) (.inr fun _=>rfl) h
theorem afh_ {m:List Near} (h:m.length < 4294967296):Prim.ev (.app true 2) [.l [],.l (m.map zF_)]=some (.l (m.map zF_)):=xF_ (w:=2) (fun _=>rfl) (.inr fun _=>rfl) h
theorem aox_ {l:List Near} {x:Near} (h:l.length < 4294967295):Prim.ev (.app false 2) [.l (l.map zF_),.l ([x].map zF_)]=some (.l ((l++[x]).map zF_)):=afv_ (by simp;omega)
theorem an5_ {x:Near}:Prim.ev (.app false 2) [.l [],.l ([x].map zF_)]=some (.l ([x].map zF_)):=adt_ (by simp)
theorem aqx_ {l:List Near} {x:Near} (h:l.length < 4294967295):Prim.ev (.app true 2) [.l (l.map zF_),.l ([x].map zF_)]=some (.l ((l++[x]).map zF_)):=ajm_ (by simp;omega)
theorem apn_ {x:Near}:Prim.ev (.app true 2) [.l [],.l ([x].map zF_)]=some (.l ([x].map zF_)):=afh_ (by simp)
theorem aI0_ {l:List Near} {a:Int} (h:0≤a) (h':a≤l.length):Prim.ev (.sub 2 true false) [.l (l.map zF_),ii a]=some (.l ((l.drop a.toNat).map zF_)):=wZ_ (enc:=zF_) (w:=2) (fun _=>rfl) h h'
theorem aJm_ {l:List Near} {a:Int} (h:0≤a) (h':a≤l.length):Prim.ev (.sub 2 false true) [.l (l.map zF_),ii a]=some (.l ((l.take a.toNat).map zF_)):=wY_ (enc:=zF_) (w:=2) (fun _=>rfl) h h'
theorem aM5_ (v0:Int) (v1:Int):Prim.ev (.lit 2 [true,true]) [ii v0,ii v1]=some (.l ([(⟨v0,v1⟩:Near)].map zF_)):=y3_ (by decide) rfl rfl
theorem aI8_ (v0:Int) (v1:Int):Prim.ev (.lit 2 []) [ii v0,ii v1]=some (.l ([(⟨v0,v1⟩:Near)].map zF_)):=y3_ (by decide) rfl rfl
theorem aM1_ (x:Near):(⟨x.to,x.cost⟩:Near)=x:=rfl
structure Rcd where
 area:Int
 kind:Int
 owner:Int
 key:Int
 seq:Int
 near:List Near
 cost:Int
 far:Bool
 deriving Inhabited
def eRcd (x:Rcd):List T:=[ii x.area,ii x.kind,ii x.owner,ii x.key,ii x.seq,.l (x.near.map zF_),ii x.cost,bb x.far]
def yRcd:List Ty:=[.i .i64,.i .i64,.i .i64,.i .i64,.i .i64,.sl aO7_,.i .i64,.b]
def alo_ (x:Rcd):Prop:=I64 x.area∧I64 x.kind∧I64 x.owner∧I64 x.key∧I64 x.seq∧(x.near.length≤maxLen∧∀ y∈x.near,axt_ y)∧I64 x.cost
theorem wRcd (x:Rcd) (h:alo_ x):WTs yRcd (eRcd x):=by
 obtain ⟨h0,h1,h2,h3,h4,h5,h6⟩:=h
 exact wl_ ⟨_,_,rfl,⟨_,rfl,h0⟩,_,_,rfl,⟨_,rfl,h1⟩,_,_,rfl,⟨_,rfl,h2⟩,_,_,rfl,⟨_,rfl,h3⟩,_,_,rfl,⟨_,rfl,h4⟩,_,_,rfl,aiw_ (by rw [List.length_map];exact h5.1) (wJ_ aSo_ h5.2),_,_,rfl,⟨_,rfl,h6⟩,_,_,rfl,⟨_,rfl⟩,rfl⟩
def w3_ (x:Rcd):Nat:=blks afm_ x.near
theorem bRcd (x:Rcd):xc_ (eRcd x)=w3_ x:=by
 simp only [eRcd,w3_,zo_,zx_,yw_,yB_,z3_,Nat.add_zero,Nat.zero_add,wI_ aSi_]
theorem aEo_ {l:List Rcd} {n:Int} (h:0≤n) (h':n < l.length):Prim.ev (.cell 8 0) [.l (l.map eRcd),ii n]=some (ii (gt l n).area):=zr_ h (zd_ h h') rfl rfl
theorem aza_ {l:List Rcd} {n:Int} (h:0≤n) (h':n < l.length):Prim.ev (.scell 8 0) [.l (l.map eRcd),ii n]=some (ii (gt l n).area):=zD_ h (zd_ h h') rfl rfl rfl
theorem aHg_ {l:List Rcd} {n:Int} (h:0≤n) (h':n < l.length):Prim.ev (.cell 8 1) [.l (l.map eRcd),ii n]=some (ii (gt l n).kind):=zr_ h (zd_ h h') rfl rfl
theorem aCl_ {l:List Rcd} {n:Int} (h:0≤n) (h':n < l.length):Prim.ev (.scell 8 1) [.l (l.map eRcd),ii n]=some (ii (gt l n).kind):=zD_ h (zd_ h h') rfl rfl rfl
theorem aF5_ {l:List Rcd} {n:Int} (h:0≤n) (h':n < l.length):Prim.ev (.cell 8 2) [.l (l.map eRcd),ii n]=some (ii (gt l n).owner):=zr_ h (zd_ h h') rfl rfl
theorem aAy_ {l:List Rcd} {n:Int} (h:0≤n) (h':n < l.length):Prim.ev (.scell 8 2) [.l (l.map eRcd),ii n]=some (ii (gt l n).owner):=zD_ h (zd_ h h') rfl rfl rfl
theorem aE1_ {l:List Rcd} {n:Int} (h:0≤n) (h':n < l.length):Prim.ev (.cell 8 3) [.l (l.map eRcd),ii n]=some (ii (gt l n).key):=zr_ h (zd_ h h') rfl rfl
theorem aze_ {l:List Rcd} {n:Int} (h:0≤n) (h':n < l.length):Prim.ev (.scell 8 3) [.l (l.map eRcd),ii n]=some (ii (gt l n).key):=zD_ h (zd_ h h') rfl rfl rfl
theorem aFz_ {l:List Rcd} {n:Int} (h:0≤n) (h':n < l.length):Prim.ev (.cell 8 4) [.l (l.map eRcd),ii n]=some (ii (gt l n).seq):=zr_ h (zd_ h h') rfl rfl
theorem aAc_ {l:List Rcd} {n:Int} (h:0≤n) (h':n < l.length):Prim.ev (.scell 8 4) [.l (l.map eRcd),ii n]=some (ii (gt l n).seq):=zD_ h (zd_ h h') rfl rfl rfl
theorem aEk_ {l:List Rcd} {n:Int} (h:0≤n) (h':n < l.length):Prim.ev (.cell 8 5) [.l (l.map eRcd),ii n]=some (.l ((gt l n).near.map zF_)):=zr_ h (zd_ h h') rfl rfl
theorem aIa_ {l:List Rcd} {n:Int} (h:0≤n) (h':n < l.length):Prim.ev (.dig 8 5) [.l (l.map eRcd),ii n]=some (.l ((gt l n).near.map zF_)):=wV_ h (zd_ h h') rfl rfl
theorem aD7_ {l:List Rcd} {n:Int} (h:0≤n) (h':n < l.length):Prim.ev (.cell 8 6) [.l (l.map eRcd),ii n]=some (ii (gt l n).cost):=zr_ h (zd_ h h') rfl rfl
theorem aBn_ {l:List Rcd} {n:Int} (h:0≤n) (h':n < l.length):Prim.ev (.scell 8 6) [.l (l.map eRcd),ii n]=some (ii (gt l n).cost):=zD_ h (zd_ h h') rfl rfl rfl
theorem aHl_ {l:List Rcd} {n:Int} (h:0≤n) (h':n < l.length):Prim.ev (.cell 8 7) [.l (l.map eRcd),ii n]=some (bb (gt l n).far):=zr_ h (zd_ h h') rfl rfl
theorem aCv_ {l:List Rcd} {n:Int} (h:0≤n) (h':n < l.length):Prim.ev (.scell 8 7) [.l (l.map eRcd),ii n]=some (bb (gt l n).far):=zD_ h (zd_ h h') rfl rfl rfl
theorem uU_ {l m:List Rcd} (h:l.length+m.length < 4294967296):Prim.ev (.app false 8) [.l (l.map eRcd),.l (m.map eRcd)]=some (.l ((l++m).map eRcd)):=xL_ (w:=8) (fun _=>rfl) (.inl rfl) h
theorem agi_ {m:List Rcd} (h:m.length < 4294967296):Prim.ev (.app false 8) [.l [],.l (m.map eRcd)]=some (.l (m.map eRcd)):=xF_ (w:=8) (fun _=>rfl) (.inl rfl) h
theorem arq_ {l:List Rcd} {x:Rcd} (h:l.length < 4294967295):Prim.ev (.app false 8) [.l (l.map eRcd),.l ([x].map eRcd)]=some (.l ((l++[x]).map eRcd)):=uU_ (by simp;omega)
theorem aov_ {x:Rcd}:Prim.ev (.app false 8) [.l [],.l ([x].map eRcd)]=some (.l ([x].map eRcd)):=agi_ (by simp)
theorem aL5_ {l:List Rcd} {a:Int} (h:0≤a) (h':a≤l.length):Prim.ev (.sub 8 true false) [.l (l.map eRcd),ii a]=some (.l ((l.drop a.toNat).map eRcd)):=wZ_ (enc:=eRcd) (w:=8) (fun _=>rfl) h h'
theorem aMx_ {l:List Rcd} {a:Int} (h:0≤a) (h':a≤l.length):Prim.ev (.sub 8 false true) [.l (l.map eRcd),ii a]=some (.l ((l.take a.toNat).map eRcd)):=wY_ (enc:=eRcd) (w:=8) (fun _=>rfl) h h'
theorem aCz_ (v0:Int) (v1:Int) (v2:Int) (v3:Int) (v4:Int) (v5:List Near) (v6:Int) (v7:Bool):Prim.ev (.lit 8 [true,true,true,true,true,false,true,true]) [ii v0,ii v1,ii v2,ii v3,ii v4,.l (v5.map zF_),ii v6,bb v7]=some (.l ([(⟨v0,v1,v2,v3,v4,v5,v6,v7⟩:Rcd)].map eRcd)):=y3_ (by decide) rfl rfl
theorem aNc_ (v0:Int) (v1:Int) (v2:Int) (v3:Int) (v4:Int) (v5:List Near) (v6:Int) (v7:Bool):Prim.ev (.lit 8 []) [ii v0,ii v1,ii v2,ii v3,ii v4,.l (v5.map zF_),ii v6,bb v7]=some (.l ([(⟨v0,v1,v2,v3,v4,v5,v6,v7⟩:Rcd)].map eRcd)):=y3_ (by decide) rfl rfl
theorem aQv_ (x:Rcd):(⟨x.area,x.kind,x.owner,x.key,x.seq,x.near,x.cost,x.far⟩:Rcd)=x:=rfl
structure Way where
 to:Int
 cost:Int
 hops:List Int
 deriving Inhabited
def eWay (x:Way):List T:=[ii x.to,ii x.cost,.l (x.hops.map eInt)]
theorem aHk_ {l:List Way} {n:Int} (h:0≤n) (h':n < l.length):Prim.ev (.cell 3 0) [.l (l.map eWay),ii n]=some (ii (gt l n).to):=zr_ h (zd_ h h') rfl rfl
theorem azn_ {l:List Way} {n:Int} (h:0≤n) (h':n < l.length):Prim.ev (.scell 3 0) [.l (l.map eWay),ii n]=some (ii (gt l n).to):=zD_ h (zd_ h h') rfl rfl rfl
theorem aD3_ {l:List Way} {n:Int} (h:0≤n) (h':n < l.length):Prim.ev (.cell 3 1) [.l (l.map eWay),ii n]=some (ii (gt l n).cost):=zr_ h (zd_ h h') rfl rfl
theorem aA5_ {l:List Way} {n:Int} (h:0≤n) (h':n < l.length):Prim.ev (.scell 3 1) [.l (l.map eWay),ii n]=some (ii (gt l n).cost):=zD_ h (zd_ h h') rfl rfl rfl
theorem aFd_ {l:List Way} {n:Int} (h:0≤n) (h':n < l.length):Prim.ev (.cell 3 2) [.l (l.map eWay),ii n]=some (.l ((gt l n).hops.map eInt)):=zr_ h (zd_ h h') rfl rfl
theorem aIw_ {l:List Way} {n:Int} (h:0≤n) (h':n < l.length):Prim.ev (.dig 3 2) [.l (l.map eWay),ii n]=some (.l ((gt l n).hops.map eInt)):=wV_ h (zd_ h h') rfl rfl
theorem wE_ {l m:List Way} (h:l.length+m.length < 4294967296):Prim.ev (.app false 3) [.l (l.map eWay),.l (m.map eWay)]=some (.l ((l++m).map eWay)):=xL_ (w:=3) (fun _=>rfl) (.inl rfl) h
theorem wq_ {m:List Way} (h:m.length < 4294967296):Prim.ev (.app false 3) [.l [],.l (m.map eWay)]=some (.l (m.map eWay)):=xF_ (w:=3) (fun _=>rfl) (.inl rfl) h
theorem wH_ {l:List Way} {x:Way} (h:l.length < 4294967295):Prim.ev (.app false 3) [.l (l.map eWay),.l ([x].map eWay)]=some (.l ((l++[x]).map eWay)):=wE_ (by simp;omega)
theorem aoq_ {x:Way}:Prim.ev (.app false 3) [.l [],.l ([x].map eWay)]=some (.l ([x].map eWay)):=wq_ (by simp)
theorem aOi_ {l:List Way} {a:Int} (h:0≤a) (h':a≤l.length):Prim.ev (.sub 3 true false) [.l (l.map eWay),ii a]=some (.l ((l.drop a.toNat).map eWay)):=wZ_ (enc:=eWay) (w:=3) (fun _=>rfl) h h'
theorem aM2_ {l:List Way} {a:Int} (h:0≤a) (h':a≤l.length):Prim.ev (.sub 3 false true) [.l (l.map eWay),ii a]=some (.l ((l.take a.toNat).map eWay)):=wY_ (enc:=eWay) (w:=3) (fun _=>rfl) h h'
theorem aQs_ (v0:Int) (v1:Int) (v2:List Int):Prim.ev (.lit 3 [true,true,false]) [ii v0,ii v1,.l (v2.map eInt)]=some (.l ([(⟨v0,v1,v2⟩:Way)].map eWay)):=y3_ (by decide) rfl rfl
theorem aNr_ (v0:Int) (v1:Int) (v2:List Int):Prim.ev (.lit 3 []) [ii v0,ii v1,.l (v2.map eInt)]=some (.l ([(⟨v0,v1,v2⟩:Way)].map eWay)):=y3_ (by decide) rfl rfl
theorem aP5_ (x:Way):(⟨x.to,x.cost,x.hops⟩:Way)=x:=rfl
structure Route where
 thing:Bool
 to:Int
 kind:Int
 cost:Int
 far:Int
 hops:List Int
 deriving Inhabited
def zJ_ (x:Route):List T:=[bb x.thing,ii x.to,ii x.kind,ii x.cost,ii x.far,.l (x.hops.map eInt)]
theorem aun_ {l:List Route} {n:Int} (h:0≤n) (h':n < l.length):Prim.ev (.cell 6 0) [.l (l.map zJ_),ii n]=some (bb (gt l n).thing):=zr_ h (zd_ h h') rfl rfl
theorem aty_ {l:List Route} {n:Int} (h:0≤n) (h':n < l.length):Prim.ev (.scell 6 0) [.l (l.map zJ_),ii n]=some (bb (gt l n).thing):=zD_ h (zd_ h h') rfl rfl rfl
theorem ayl_ {l:List Route} {n:Int} (h:0≤n) (h':n < l.length):Prim.ev (.cell 6 1) [.l (l.map zJ_),ii n]=some (ii (gt l n).to):=zr_ h (zd_ h h') rfl rfl
theorem as7_ {l:List Route} {n:Int} (h:0≤n) (h':n < l.length):Prim.ev (.scell 6 1) [.l (l.map zJ_),ii n]=some (ii (gt l n).to):=zD_ h (zd_ h h') rfl rfl rfl
theorem axh_ {l:List Route} {n:Int} (h:0≤n) (h':n < l.length):Prim.ev (.cell 6 2) [.l (l.map zJ_),ii n]=some (ii (gt l n).kind):=zr_ h (zd_ h h') rfl rfl
theorem atc_ {l:List Route} {n:Int} (h:0≤n) (h':n < l.length):Prim.ev (.scell 6 2) [.l (l.map zJ_),ii n]=some (ii (gt l n).kind):=zD_ h (zd_ h h') rfl rfl rfl
theorem avd_ {l:List Route} {n:Int} (h:0≤n) (h':n < l.length):Prim.ev (.cell 6 3) [.l (l.map zJ_),ii n]=some (ii (gt l n).cost):=zr_ h (zd_ h h') rfl rfl
theorem as6_ {l:List Route} {n:Int} (h:0≤n) (h':n < l.length):Prim.ev (.scell 6 3) [.l (l.map zJ_),ii n]=some (ii (gt l n).cost):=zD_ h (zd_ h h') rfl rfl rfl
theorem awk_ {l:List Route} {n:Int} (h:0≤n) (h':n < l.length):Prim.ev (.cell 6 4) [.l (l.map zJ_),ii n]=some (ii (gt l n).far):=zr_ h (zd_ h h') rfl rfl
theorem atn_ {l:List Route} {n:Int} (h:0≤n) (h':n < l.length):Prim.ev (.scell 6 4) [.l (l.map zJ_),ii n]=some (ii (gt l n).far):=zD_ h (zd_ h h') rfl rfl rfl
theorem au2_ {l:List Route} {n:Int} (h:0≤n) (h':n < l.length):Prim.ev (.cell 6 5) [.l (l.map zJ_),ii n]=some (.l ((gt l n).hops.map eInt)):=zr_ h (zd_ h h') rfl rfl
theorem ay9_ {l:List Route} {n:Int} (h:0≤n) (h':n < l.length):Prim.ev (.dig 6 5) [.l (l.map zJ_),ii n]=some (.l ((gt l n).hops.map eInt)):=wV_ h (zd_ h h') rfl rfl
theorem adk_ {l m:List Route} (h:l.length+m.length < 4294967296):Prim.ev (.app false 6) [.l (l.map zJ_),.l (m.map zJ_)]=some (.l ((l++m).map zJ_)):=xL_ (w:=6) (fun _=>rfl) (.inl rfl) h
theorem add_ {m:List Route} (h:m.length < 4294967296):Prim.ev (.app false 6) [.l [],.l (m.map zJ_)]=some (.l (m.map zJ_)):=xF_ (w:=6) (fun _=>rfl) (.inl rfl) h
theorem an4_ {l:List Route} {x:Route} (h:l.length < 4294967295):Prim.ev (.app false 6) [.l (l.map zJ_),.l ([x].map zJ_)]=some (.l ((l++[x]).map zJ_)):=adk_ (by simp;omega)
theorem al6_ {x:Route}:Prim.ev (.app false 6) [.l [],.l ([x].map zJ_)]=some (.l ([x].map zJ_)):=add_ (by simp)
theorem aEn_ {l:List Route} {a:Int} (h:0≤a) (h':a≤l.length):Prim.ev (.sub 6 true false) [.l (l.map zJ_),ii a]=some (.l ((l.drop a.toNat).map zJ_)):=wZ_ (enc:=zJ_) (w:=6) (fun _=>rfl) h h'
theorem aF3_ {l:List Route} {a:Int} (h:0≤a) (h':a≤l.length):Prim.ev (.sub 6 false true) [.l (l.map zJ_),ii a]=some (.l ((l.take a.toNat).map zJ_)):=wY_ (enc:=zJ_) (w:=6) (fun _=>rfl) h h'
theorem aJ8_ (v0:Bool) (v1:Int) (v2:Int) (v3:Int) (v4:Int) (v5:List Int):Prim.ev (.lit 6 [true,true,true,true,true,false]) [bb v0,ii v1,ii v2,ii v3,ii v4,.l (v5.map eInt)]=some (.l ([(⟨v0,v1,v2,v3,v4,v5⟩:Route)].map zJ_)):=y3_ (by decide) rfl rfl
theorem aFe_ (v0:Bool) (v1:Int) (v2:Int) (v3:Int) (v4:Int) (v5:List Int):Prim.ev (.lit 6 []) [bb v0,ii v1,ii v2,ii v3,ii v4,.l (v5.map eInt)]=some (.l ([(⟨v0,v1,v2,v3,v4,v5⟩:Route)].map zJ_)):=y3_ (by decide) rfl rfl
theorem aH4_ (x:Route):(⟨x.thing,x.to,x.kind,x.cost,x.far,x.hops⟩:Route)=x:=rfl
structure Self where
 id:Int
 boot:Int
 net:Net
 heard:List Int
 store:List Rcd
 deriving Inhabited
def z8_ (x:Self):List T:=[ii x.id,ii x.boot,ii x.net.n,.l (x.net.links.map zn_),.l (x.net.things.map zl_),.l (x.heard.map eInt),.l (x.store.map eRcd)]
def af3_ (x:Self):Nat:=blks vl_ x.net.links+blks wG_ x.net.things+blks jn_ x.heard+blks w3_ x.store
theorem azo_ {l:List Self} {n:Int} (h:0≤n) (h':n < l.length):Prim.ev (.cell 7 0) [.l (l.map z8_),ii n]=some (ii (gt l n).id):=zr_ h (zd_ h h') rfl rfl
theorem auw_ {l:List Self} {n:Int} (h:0≤n) (h':n < l.length):Prim.ev (.scell 7 0) [.l (l.map z8_),ii n]=some (ii (gt l n).id):=zD_ h (zd_ h h') rfl rfl rfl
theorem aAn_ {l:List Self} {n:Int} (h:0≤n) (h':n < l.length):Prim.ev (.cell 7 1) [.l (l.map z8_),ii n]=some (ii (gt l n).boot):=zr_ h (zd_ h h') rfl rfl
theorem ax6_ {l:List Self} {n:Int} (h:0≤n) (h':n < l.length):Prim.ev (.scell 7 1) [.l (l.map z8_),ii n]=some (ii (gt l n).boot):=zD_ h (zd_ h h') rfl rfl rfl
theorem aAx_ {l:List Self} {n:Int} (h:0≤n) (h':n < l.length):Prim.ev (.cell 7 2) [.l (l.map z8_),ii n]=some (ii (gt l n).net.n):=zr_ h (zd_ h h') rfl rfl
theorem aup_ {l:List Self} {n:Int} (h:0≤n) (h':n < l.length):Prim.ev (.scell 7 2) [.l (l.map z8_),ii n]=some (ii (gt l n).net.n):=zD_ h (zd_ h h') rfl rfl rfl
theorem aCx_ {l:List Self} {n:Int} (h:0≤n) (h':n < l.length):Prim.ev (.cell 7 3) [.l (l.map z8_),ii n]=some (.l ((gt l n).net.links.map zn_)):=zr_ h (zd_ h h') rfl rfl
theorem aEc_ {l:List Self} {n:Int} (h:0≤n) (h':n < l.length):Prim.ev (.dig 7 3) [.l (l.map z8_),ii n]=some (.l ((gt l n).net.links.map zn_)):=wV_ h (zd_ h h') rfl rfl
theorem az8_ {l:List Self} {n:Int} (h:0≤n) (h':n < l.length):Prim.ev (.cell 7 4) [.l (l.map z8_),ii n]=some (.l ((gt l n).net.things.map zl_)):=zr_ h (zd_ h h') rfl rfl
theorem aFs_ {l:List Self} {n:Int} (h:0≤n) (h':n < l.length):Prim.ev (.dig 7 4) [.l (l.map z8_),ii n]=some (.l ((gt l n).net.things.map zl_)):=wV_ h (zd_ h h') rfl rfl
theorem az5_ {l:List Self} {n:Int} (h:0≤n) (h':n < l.length):Prim.ev (.cell 7 5) [.l (l.map z8_),ii n]=some (.l ((gt l n).heard.map eInt)):=zr_ h (zd_ h h') rfl rfl
theorem aEu_ {l:List Self} {n:Int} (h:0≤n) (h':n < l.length):Prim.ev (.dig 7 5) [.l (l.map z8_),ii n]=some (.l ((gt l n).heard.map eInt)):=wV_ h (zd_ h h') rfl rfl
theorem aB5_ {l:List Self} {n:Int} (h:0≤n) (h':n < l.length):Prim.ev (.cell 7 6) [.l (l.map z8_),ii n]=some (.l ((gt l n).store.map eRcd)):=zr_ h (zd_ h h') rfl rfl
theorem aGg_ {l:List Self} {n:Int} (h:0≤n) (h':n < l.length):Prim.ev (.dig 7 6) [.l (l.map z8_),ii n]=some (.l ((gt l n).store.map eRcd)):=wV_ h (zd_ h h') rfl rfl
theorem afl_ {l m:List Self} (h:l.length+m.length < 4294967296):Prim.ev (.app false 7) [.l (l.map z8_),.l (m.map z8_)]=some (.l ((l++m).map z8_)):=xL_ (w:=7) (fun _=>rfl) (.inl rfl) h
theorem aee_ {m:List Self} (h:m.length < 4294967296):Prim.ev (.app false 7) [.l [],.l (m.map z8_)]=some (.l (m.map z8_)):=xF_ (w:=7) (fun _=>rfl) (.inl rfl) h
theorem aow_ {l:List Self} {x:Self} (h:l.length < 4294967295):Prim.ev (.app false 7) [.l (l.map z8_),.l ([x].map z8_)]=some (.l ((l++[x]).map z8_)):=afl_ (by simp;omega)
theorem and_ {x:Self}:Prim.ev (.app false 7) [.l [],.l ([x].map z8_)]=some (.l ([x].map z8_)):=aee_ (by simp)
theorem aLb_ {l:List Self} {a:Int} (h:0≤a) (h':a≤l.length):Prim.ev (.sub 7 true false) [.l (l.map z8_),ii a]=some (.l ((l.drop a.toNat).map z8_)):=wZ_ (enc:=z8_) (w:=7) (fun _=>rfl) h h'
theorem aLh_ {l:List Self} {a:Int} (h:0≤a) (h':a≤l.length):Prim.ev (.sub 7 false true) [.l (l.map z8_),ii a]=some (.l ((l.take a.toNat).map z8_)):=wY_ (enc:=z8_) (w:=7) (fun _=>rfl) h h'
theorem aOg_ (v0:Int) (v1:Int) (v2:Int) (v3:List Link) (v4:List Thing) (v5:List Int) (v6:List Rcd):Prim.ev (.lit 7 [true,true,true,false,false,false,false]) [ii v0,ii v1,ii v2,.l (v3.map zn_),.l (v4.map zl_),.l (v5.map eInt),.l (v6.map eRcd)]=some (.l ([(⟨v0,v1,⟨v2,v3,v4⟩,v5,v6⟩:Self)].map z8_)):=y3_ (by decide) rfl rfl
theorem aJk_ (v0:Int) (v1:Int) (v2:Int) (v3:List Link) (v4:List Thing) (v5:List Int) (v6:List Rcd):Prim.ev (.lit 7 []) [ii v0,ii v1,ii v2,.l (v3.map zn_),.l (v4.map zl_),.l (v5.map eInt),.l (v6.map eRcd)]=some (.l ([(⟨v0,v1,⟨v2,v3,v4⟩,v5,v6⟩:Self)].map z8_)):=y3_ (by decide) rfl rfl
theorem aN4_ (x:Self):(⟨x.id,x.boot,⟨x.net.n,x.net.links,x.net.things⟩,x.heard,x.store⟩:Self)=x:=rfl
structure Ear where
 node:Int
 area:Int
 left:Int
 both:Bool
 deriving Inhabited
def eEar (x:Ear):List T:=[ii x.node,ii x.area,ii x.left,bb x.both]
def yEar:List Ty:=[.i .i64,.i .i64,.i .i64,.b]
def aie_ (x:Ear):Prop:=I64 x.node∧I64 x.area∧I64 x.left
theorem wEar (x:Ear) (h:aie_ x):WTs yEar (eEar x):=by
 obtain ⟨h0,h1,h2⟩:=h
 exact wl_ ⟨_,_,rfl,⟨_,rfl,h0⟩,_,_,rfl,⟨_,rfl,h1⟩,_,_,rfl,⟨_,rfl,h2⟩,_,_,rfl,⟨_,rfl⟩,rfl⟩
def afw_ (x:Ear):Nat:=0
theorem bEar (x:Ear):xc_ (eEar x)=afw_ x:=by
 simp only [eEar,afw_,zo_,zx_,yw_,yB_,z3_,Nat.add_zero,Nat.zero_add]
theorem aFy_ {l:List Ear} {n:Int} (h:0≤n) (h':n < l.length):Prim.ev (.cell 4 0) [.l (l.map eEar),ii n]=some (ii (gt l n).node):=zr_ h (zd_ h h') rfl rfl
theorem aAw_ {l:List Ear} {n:Int} (h:0≤n) (h':n < l.length):Prim.ev (.scell 4 0) [.l (l.map eEar),ii n]=some (ii (gt l n).node):=zD_ h (zd_ h h') rfl rfl rfl
theorem aG2_ {l:List Ear} {n:Int} (h:0≤n) (h':n < l.length):Prim.ev (.cell 4 1) [.l (l.map eEar),ii n]=some (ii (gt l n).area):=zr_ h (zd_ h h') rfl rfl
theorem aBo_ {l:List Ear} {n:Int} (h:0≤n) (h':n < l.length):Prim.ev (.scell 4 1) [.l (l.map eEar),ii n]=some (ii (gt l n).area):=zD_ h (zd_ h h') rfl rfl rfl
theorem aEb_ {l:List Ear} {n:Int} (h:0≤n) (h':n < l.length):Prim.ev (.cell 4 2) [.l (l.map eEar),ii n]=some (ii (gt l n).left):=zr_ h (zd_ h h') rfl rfl
theorem aB1_ {l:List Ear} {n:Int} (h:0≤n) (h':n < l.length):Prim.ev (.scell 4 2) [.l (l.map eEar),ii n]=some (ii (gt l n).left):=zD_ h (zd_ h h') rfl rfl rfl
theorem aH0_ {l:List Ear} {n:Int} (h:0≤n) (h':n < l.length):Prim.ev (.cell 4 3) [.l (l.map eEar),ii n]=some (bb (gt l n).both):=zr_ h (zd_ h h') rfl rfl
theorem aAq_ {l:List Ear} {n:Int} (h:0≤n) (h':n < l.length):Prim.ev (.scell 4 3) [.l (l.map eEar),ii n]=some (bb (gt l n).both):=zD_ h (zd_ h h') rfl rfl rfl
theorem aji_ {l m:List Ear} (h:l.length+m.length < 4294967296):Prim.ev (.app false 4) [.l (l.map eEar),.l (m.map eEar)]=some (.l ((l++m).map eEar)):=xL_ (w:=4) (fun _=>rfl) (.inl rfl) h
theorem afe_ {m:List Ear} (h:m.length < 4294967296):Prim.ev (.app false 4) [.l [],.l (m.map eEar)]=some (.l (m.map eEar)):=xF_ (w:=4) (fun _=>rfl) (.inl rfl) h
theorem akh_ {l m:List Ear} (h:l.length+m.length < 4294967296):Prim.ev (.app true 4) [.l (l.map eEar),.l (m.map eEar)]=some (.l ((l++m).map eEar)):=xL_ (w:=4) (fun _=>rfl) (.inr fun _=>rfl) h
theorem ajh_ {m:List Ear} (h:m.length < 4294967296):Prim.ev (.app true 4) [.l [],.l (m.map eEar)]=some (.l (m.map eEar)):=xF_ (w:=4) (fun _=>rfl) (.inr fun _=>rfl) h
theorem ara_ {l:List Ear} {x:Ear} (h:l.length < 4294967295):Prim.ev (.app false 4) [.l (l.map eEar),.l ([x].map eEar)]=some (.l ((l++[x]).map eEar)):=aji_ (by simp;omega)
theorem aps_ {x:Ear}:Prim.ev (.app false 4) [.l [],.l ([x].map eEar)]=some (.l ([x].map eEar)):=afe_ (by simp)
theorem as8_ {l:List Ear} {x:Ear} (h:l.length < 4294967295):Prim.ev (.app true 4) [.l (l.map eEar),.l ([x].map eEar)]=some (.l ((l++[x]).map eEar)):=akh_ (by simp;omega)
theorem arg_ {x:Ear}:Prim.ev (.app true 4) [.l [],.l ([x].map eEar)]=some (.l ([x].map eEar)):=ajh_ (by simp)
theorem aNy_ {l:List Ear} {a:Int} (h:0≤a) (h':a≤l.length):Prim.ev (.sub 4 true false) [.l (l.map eEar),ii a]=some (.l ((l.drop a.toNat).map eEar)):=wZ_ (enc:=eEar) (w:=4) (fun _=>rfl) h h'
theorem aMt_ {l:List Ear} {a:Int} (h:0≤a) (h':a≤l.length):Prim.ev (.sub 4 false true) [.l (l.map eEar),ii a]=some (.l ((l.take a.toNat).map eEar)):=wY_ (enc:=eEar) (w:=4) (fun _=>rfl) h h'
theorem aP1_ (v0:Int) (v1:Int) (v2:Int) (v3:Bool):Prim.ev (.lit 4 [true,true,true,true]) [ii v0,ii v1,ii v2,bb v3]=some (.l ([(⟨v0,v1,v2,v3⟩:Ear)].map eEar)):=y3_ (by decide) rfl rfl
theorem aNf_ (v0:Int) (v1:Int) (v2:Int) (v3:Bool):Prim.ev (.lit 4 []) [ii v0,ii v1,ii v2,bb v3]=some (.l ([(⟨v0,v1,v2,v3⟩:Ear)].map eEar)):=y3_ (by decide) rfl rfl
theorem aQz_ (x:Ear):(⟨x.node,x.area,x.left,x.both⟩:Ear)=x:=rfl
structure Node where
 self:Self
 ears:List Ear
 deriving Inhabited
def yz_ (x:Node):List T:=[ii x.self.id,ii x.self.boot,ii x.self.net.n,.l (x.self.net.links.map zn_),.l (x.self.net.things.map zl_),.l (x.self.heard.map eInt),.l (x.self.store.map eRcd),.l (x.ears.map eEar)]
def aSf_:List Ty:=[.i .i64,.i .i64,.i .i64,.sl wh_,.sl xA_,.sl yInt,.sl yRcd,.sl yEar]
def aJ3_ (x:Node):Prop:=I64 x.self.id∧I64 x.self.boot∧I64 x.self.net.n∧(x.self.net.links.length≤maxLen∧∀ y∈x.self.net.links,aqk_ y)∧(x.self.net.things.length≤maxLen∧∀ y∈x.self.net.things,alq_ y)∧(x.self.heard.length≤maxLen∧∀ y∈x.self.heard,aO3_ y)∧(x.self.store.length≤maxLen∧∀ y∈x.self.store,alo_ y)∧(x.ears.length≤maxLen∧∀ y∈x.ears,aie_ y)
theorem aSt_ (x:Node) (h:aJ3_ x):WTs aSf_ (yz_ x):=by
 obtain ⟨h0,h1,h2,h3,h4,h5,h6,h7⟩:=h
 exact wl_ ⟨_,_,rfl,⟨_,rfl,h0⟩,_,_,rfl,⟨_,rfl,h1⟩,_,_,rfl,⟨_,rfl,h2⟩,_,_,rfl,aiw_ (by rw [List.length_map];exact h3.1) (wJ_ aFp_ h3.2),_,_,rfl,aiw_ (by rw [List.length_map];exact h4.1) (wJ_ axd_ h4.2),_,_,rfl,aiw_ (by rw [List.length_map];exact h5.1) (wJ_ wInt h5.2),_,_,rfl,aiw_ (by rw [List.length_map];exact h6.1) (wJ_ wRcd h6.2),_,_,rfl,aiw_ (by rw [List.length_map];exact h7.1) (wJ_ wEar h7.2),rfl⟩
def agh_ (x:Node):Nat:=blks vl_ x.self.net.links+blks wG_ x.self.net.things+blks jn_ x.self.heard+blks w3_ x.self.store+blks afw_ x.ears
theorem bNode (x:Node):xc_ (yz_ x)=agh_ x:=by
 simp only [yz_,agh_,zo_,zx_,yw_,yB_,z3_,Nat.add_zero,Nat.zero_add,wI_ bEar,wI_ bInt,wI_ aua_,wI_ bRcd,wI_ aoz_]
 try omega
theorem aCt_ {l:List Node} {n:Int} (h:0≤n) (h':n < l.length):Prim.ev (.cell 8 0) [.l (l.map yz_),ii n]=some (ii (gt l n).self.id):=zr_ h (zd_ h h') rfl rfl
theorem ayq_ {l:List Node} {n:Int} (h:0≤n) (h':n < l.length):Prim.ev (.scell 8 0) [.l (l.map yz_),ii n]=some (ii (gt l n).self.id):=zD_ h (zd_ h h') rfl rfl rfl
theorem aCf_ {l:List Node} {n:Int} (h:0≤n) (h':n < l.length):Prim.ev (.cell 8 1) [.l (l.map yz_),ii n]=some (ii (gt l n).self.boot):=zr_ h (zd_ h h') rfl rfl
theorem avy_ {l:List Node} {n:Int} (h:0≤n) (h':n < l.length):Prim.ev (.scell 8 1) [.l (l.map yz_),ii n]=some (ii (gt l n).self.boot):=zD_ h (zd_ h h') rfl rfl rfl
theorem azp_ {l:List Node} {n:Int} (h:0≤n) (h':n < l.length):Prim.ev (.cell 8 2) [.l (l.map yz_),ii n]=some (ii (gt l n).self.net.n):=zr_ h (zd_ h h') rfl rfl
theorem awl_ {l:List Node} {n:Int} (h:0≤n) (h':n < l.length):Prim.ev (.scell 8 2) [.l (l.map yz_),ii n]=some (ii (gt l n).self.net.n):=zD_ h (zd_ h h') rfl rfl rfl
theorem aAp_ {l:List Node} {n:Int} (h:0≤n) (h':n < l.length):Prim.ev (.cell 8 3) [.l (l.map yz_),ii n]=some (.l ((gt l n).self.net.links.map zn_)):=zr_ h (zd_ h h') rfl rfl
theorem aE8_ {l:List Node} {n:Int} (h:0≤n) (h':n < l.length):Prim.ev (.dig 8 3) [.l (l.map yz_),ii n]=some (.l ((gt l n).self.net.links.map zn_)):=wV_ h (zd_ h h') rfl rfl
theorem aAl_ {l:List Node} {n:Int} (h:0≤n) (h':n < l.length):Prim.ev (.cell 8 4) [.l (l.map yz_),ii n]=some (.l ((gt l n).self.net.things.map zl_)):=zr_ h (zd_ h h') rfl rfl
theorem aGe_ {l:List Node} {n:Int} (h:0≤n) (h':n < l.length):Prim.ev (.dig 8 4) [.l (l.map yz_),ii n]=some (.l ((gt l n).self.net.things.map zl_)):=wV_ h (zd_ h h') rfl rfl
theorem aCj_ {l:List Node} {n:Int} (h:0≤n) (h':n < l.length):Prim.ev (.cell 8 5) [.l (l.map yz_),ii n]=some (.l ((gt l n).self.heard.map eInt)):=zr_ h (zd_ h h') rfl rfl
theorem aGd_ {l:List Node} {n:Int} (h:0≤n) (h':n < l.length):Prim.ev (.dig 8 5) [.l (l.map yz_),ii n]=some (.l ((gt l n).self.heard.map eInt)):=wV_ h (zd_ h h') rfl rfl
theorem aAj_ {l:List Node} {n:Int} (h:0≤n) (h':n < l.length):Prim.ev (.cell 8 6) [.l (l.map yz_),ii n]=some (.l ((gt l n).self.store.map eRcd)):=zr_ h (zd_ h h') rfl rfl
theorem aE7_ {l:List Node} {n:Int} (h:0≤n) (h':n < l.length):Prim.ev (.dig 8 6) [.l (l.map yz_),ii n]=some (.l ((gt l n).self.store.map eRcd)):=wV_ h (zd_ h h') rfl rfl
theorem aCc_ {l:List Node} {n:Int} (h:0≤n) (h':n < l.length):Prim.ev (.cell 8 7) [.l (l.map yz_),ii n]=some (.l ((gt l n).ears.map eEar)):=zr_ h (zd_ h h') rfl rfl
theorem aG9_ {l:List Node} {n:Int} (h:0≤n) (h':n < l.length):Prim.ev (.dig 8 7) [.l (l.map yz_),ii n]=some (.l ((gt l n).ears.map eEar)):=wV_ h (zd_ h h') rfl rfl
theorem af0_ {l m:List Node} (h:l.length+m.length < 4294967296):Prim.ev (.app false 8) [.l (l.map yz_),.l (m.map yz_)]=some (.l ((l++m).map yz_)):=xL_ (w:=8) (fun _=>rfl) (.inl rfl) h
theorem aeb_ {m:List Node} (h:m.length < 4294967296):Prim.ev (.app false 8) [.l [],.l (m.map yz_)]=some (.l (m.map yz_)):=xF_ (w:=8) (fun _=>rfl) (.inl rfl) h
theorem ap3_ {l:List Node} {x:Node} (h:l.length < 4294967295):Prim.ev (.app false 8) [.l (l.map yz_),.l ([x].map yz_)]=some (.l ((l++[x]).map yz_)):=af0_ (by simp;omega)
theorem aoa_ {x:Node}:Prim.ev (.app false 8) [.l [],.l ([x].map yz_)]=some (.l ([x].map yz_)):=aeb_ (by simp)
theorem aJp_ {l:List Node} {a:Int} (h:0≤a) (h':a≤l.length):Prim.ev (.sub 8 true false) [.l (l.map yz_),ii a]=some (.l ((l.drop a.toNat).map yz_)):=wZ_ (enc:=yz_) (w:=8) (fun _=>rfl) h h'
theorem aIe_ {l:List Node} {a:Int} (h:0≤a) (h':a≤l.length):Prim.ev (.sub 8 false true) [.l (l.map yz_),ii a]=some (.l ((l.take a.toNat).map yz_)):=wY_ (enc:=yz_) (w:=8) (fun _=>rfl) h h'
theorem aMr_ (v0:Int) (v1:Int) (v2:Int) (v3:List Link) (v4:List Thing) (v5:List Int) (v6:List Rcd) (v7:List Ear):Prim.ev (.lit 8 [true,true,true,false,false,false,false,false]) [ii v0,ii v1,ii v2,.l (v3.map zn_),.l (v4.map zl_),.l (v5.map eInt),.l (v6.map eRcd),.l (v7.map eEar)]=some (.l ([(⟨⟨v0,v1,⟨v2,v3,v4⟩,v5,v6⟩,v7⟩:Node)].map yz_)):=y3_ (by decide) rfl rfl
theorem aLd_ (v0:Int) (v1:Int) (v2:Int) (v3:List Link) (v4:List Thing) (v5:List Int) (v6:List Rcd) (v7:List Ear):Prim.ev (.lit 8 []) [ii v0,ii v1,ii v2,.l (v3.map zn_),.l (v4.map zl_),.l (v5.map eInt),.l (v6.map eRcd),.l (v7.map eEar)]=some (.l ([(⟨⟨v0,v1,⟨v2,v3,v4⟩,v5,v6⟩,v7⟩:Node)].map yz_)):=y3_ (by decide) rfl rfl
theorem aMm_ (x:Node):(⟨⟨x.self.id,x.self.boot,⟨x.self.net.n,x.self.net.links,x.self.net.things⟩,x.self.heard,x.self.store⟩,x.ears⟩:Node)=x:=rfl
structure Packet where
 kind:Int
 frm:Int
 to:Int
 area:Int
 heard:List Int
 list:List Rcd
 deriving Inhabited
structure World where
 net:Net
 links:List Bool
 up:List Bool
 boots:List Int
 nodes:List Node
 flying:List Packet
 told:List Rcd
 errors:Int
 deriving Inhabited
end Go.Proofs.YtiebbbmibbkpcaaGreatC
