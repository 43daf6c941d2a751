/- The routes of a node. Conditions: none. -/
import Derived.Test.YtiebbbmibbkpcaaGreatXSP
namespace Go.Proofs.YtiebbbmibbkpcaaGreatC
open Int (reduceLE reduceLT reduceEq reduceGT reduceGE reduceAdd reduceSub reduceMul reduceNeg)
set_option linter.unusedVariables false
set_option linter.unusedSimpArgs false
def aR9_ (o:Option Way):Prop:=∀ b,o=some b→0≤b.cost∧b.cost≤200000
def aR8_ (f:Option (Int × Way)):Prop:=∀ c b,f=some (c,b)→(0≤c∧c≤60000)∧0≤b.cost∧b.cost≤200000
theorem aDj_ {s:List Rcd} (hs:zJ_ s=true) {W:List Way} (hW:WaysG W) {key fr:Int} (l:List Rcd) (hl:∀ x∈l,x∈s) (o:Option Way) (ho:aR9_ o):aR9_ (l.foldl (xF_ W key fr) o):=by
 induction l generalizing o with
 | nil=>exact ho
 | cons x l ih =>
  refine ih (fun y hy=>hl y (.tail _ hy)) _ ?_
  have hx:=kT_ hs (hl x (.head _))
  unfold xF_
  split
  ·exact ho
  ·split
   ·exact ho
   ·rename_i w hw
    have hw:=kF_ hW (ag5_ hw).2
    cases o with
    | none=>intro b hb;simp only [tog1] at hb;cases hb;show 0≤w.cost+x.cost∧w.cost+x.cost≤200000;omega
    | some b0 =>
     intro b hb;simp only [tog1] at hb;cases hb
     have:=ho b0 rfl
     rcases aie_ b0 ⟨key,w.cost+x.cost,w.hops⟩ with e | e <;> rw [e]
     ·exact this
     ·show 0≤w.cost+x.cost∧w.cost+x.cost≤200000;omega
theorem aBy_ {s:List Rcd} (hs:zJ_ s=true) {W:List Way} (hW:WaysG W) {key fr:Int} (l:List Rcd) (hl:∀ x∈l,x∈s) (o:Option (Int × Way)) (ho:aR8_ o):aR8_ (l.foldl (xH_ W key fr) o):=by
 induction l generalizing o with
 | nil=>exact ho
 | cons x l ih =>
  refine ih (fun y hy=>hl y (.tail _ hy)) _ ?_
  have hx:=kT_ hs (hl x (.head _))
  unfold xH_
  split
  ·split
   ·exact ho
   ·rename_i w hw
    have hw:=kF_ hW (ag5_ hw).2
    intro c b hb
    unfold far1 at hb
    split at hb
    ·cases hb;exact ⟨hx,by show 0≤w.cost∧w.cost≤200000;omega⟩
    ·rename_i l0 b0
     have h0:=ho l0 b0 rfl
     split at hb
     ·cases hb
      refine ⟨h0.1,?_⟩
      rcases aie_ b0 ⟨key,w.cost,w.hops⟩ with e | e <;> rw [e]
      ·exact h0.2
      ·show 0≤w.cost∧w.cost≤200000;omega
     ·split at hb
      ·cases hb;exact ⟨hx,by show 0≤w.cost∧w.cost≤200000;omega⟩
      ·cases hb;exact h0
  ·exact ho
theorem aO5_ {l:List Int} (h:zw_ l):l.length≤maxLen∧∀ y∈l,alr_ y:=⟨by have:=zL_ h;unfold maxLen;omega,fun y hy=>I64.mk (by have:=h.2 y hy;omega) (by have:=h.2 y hy;omega)⟩
theorem aa9_ {t:Bool} {to kind cost far:Int} {hops:List Int} (h1:0≤to∧to≤9) (h2:0≤kind∧kind≤4) (h3:0≤cost∧cost≤200000) (h4:0≤far∧far≤60000) (h5:zw_ hops):arn_ ⟨t,to,kind,cost,far,hops⟩∧hops.length≤6 :=
 ⟨⟨I64.mk (by show _≤to;omega) (by show to < _;omega),I64.mk (by show _≤kind;omega) (by show kind < _;omega),I64.mk (by show _≤cost;omega) (by show cost < _;omega),I64.mk (by show _≤far;omega) (by show far < _;omega),aO5_ h5⟩,zL_ h5⟩
theorem ay9_ (s:List Rcd) (A:List Int) (z:Bool) (fr:Int):(qp_ s A z fr).length≤21:=by
 unfold qp_
 have h1:=List.length_filter_le (fun w:Way=>!(w.to == fr)) (zx_ s A fr)
 have h2:=w2_ (s:=s) (A:=A) (fr:=fr)
 have h3:=uC_ (s:=s) (A:=A) (z:=z) (fr:=fr)
 have h4:=List.length_filterMap_le (fun k=>wz_ s (zx_ s A fr++zT_ s A z fr) k fr) (upto 9)
 have h5:(upto 9).length=9:=rfl
 simp only [List.length_append,List.length_map]
 omega
theorem aE6_ {s:List Rcd} (hs:zJ_ s=true) {A:List Int} {z:Bool} {fr:Int}:∀ r∈qp_ s A z fr,arn_ r∧r.hops.length≤6:=by
 intro r hr
 have hW:WaysG (zx_ s A fr++zT_ s A z fr):=WaysG.app (Nat.le_trans w2_ (by omega)) (Nat.le_trans uC_ (by omega)) abr_ abl_
 unfold qp_ at hr
 rcases List.mem_append.1 hr with hr | hr
 ·rcases List.mem_append.1 hr with hr | hr
  ·obtain ⟨w,hw,rfl⟩:=List.mem_map.1 hr
   have:=jZ_ (List.mem_filter.1 hw).1
   exact aa9_ (by omega) (by omega) (by omega) (by omega) this.2.1
  ·obtain ⟨w,hw,rfl⟩:=List.mem_map.1 hr
   have:=qj_ hw
   exact aa9_ (by omega) (by omega) (by omega) (by omega) this.2.1
 ·obtain ⟨k,hk,e⟩:=List.mem_filterMap.1 hr
  have hk:=mem_upto.1 hk
  unfold wz_ at e
  split at e
  ·rename_i b hb
   cases e
   have h1:zw_ b.hops:=ath_ hW s none (by intro b hb;(cases hb)) b hb
   have h2:=aDj_ hs hW s (fun _ h=>h) none (by intro b hb;(cases hb)) b hb
   exact aa9_ (by omega) (by omega) (by omega) (by omega) h1
  ·split at e
   ·rename_i c b hb
    cases e
    have h1:zw_ b.hops:=ate_ hW s none (by intro c b hb;(cases hb)) c b hb
    have h2:=aBy_ hs hW s (fun _ h=>h) none (by intro c b hb;(cases hb)) c b hb
    exact aa9_ (by omega) (by omega) (by omega) (by omega) h1
   ·cases e
theorem aEc_ {l:List Route} (h:∀ r∈l,r.hops.length≤6):blks ab2_ l≤7 * l.length:=by
 induction l with
 | nil=>simp [blks]
 | cons r l ih =>
  have h1:=h r (.head _)
  have h2:=ih fun y hy=>h y (.tail _ hy)
  have h3:∀ m:List Int,blks uN_ m=m.length:=by
   intro m;induction m with
   | nil=>rfl
   | cons a m ih=>simp only [blks,ih,uN_,List.length_cons];omega
  simp only [blks,ab2_,h3,List.length_cons]
  omega
def xo_ (x:Node):List Route:=if uR_ x=true then qp_ x.self.store (yP_ x.self.net.links x.self.id) (w0_ x.self.net.links x.self.id) x.self.id else []
theorem ae6_ {x:Node} (h:uR_ x=true):w8_ x.self.net=true∧zJ_ x.self.store=true:=by
 unfold uR_ qC_ at h
 simp only [Bool.and_eq_true] at h
 exact ⟨h.1.1,h.1.2.2.2.2⟩
theorem aat_ (x:Node):(∀ r∈xo_ x,arn_ r)∧(xo_ x).length≤21∧blks ab2_ (xo_ x)≤147:=by
 unfold xo_
 split
 ·rename_i h
  have hs:=(ae6_ h).2
  have h1:=ay9_ x.self.store (yP_ x.self.net.links x.self.id) (w0_ x.self.net.links x.self.id) x.self.id
  have h2:=aE6_ hs (A:=yP_ x.self.net.links x.self.id) (z:=w0_ x.self.net.links x.self.id) (fr:=x.self.id)
  have h3:=aEc_ fun r hr=>(h2 r hr).2
  exact ⟨fun r hr=>(h2 r hr).1,h1,by omega⟩
 ·exact ⟨by simp,by simp,by simp [blks]⟩
theorem aKi_ (id boot n:Int) (ls:List Link) (ts:List Thing) (hd:List Int) (st:List Rcd) (es:List Ear) (h1:ls.length≤1048576) (h2:ts.length≤1048576) (h3:hd.length≤1048576) (h4:st.length≤1048576) (h5:NearL st) (h6:es.length≤1048576) :
  uL_ [ii id,ii boot,ii n,.l (ls.map zu_),.l (ts.map zt_),.l (hd.map eInt),.l (st.map eRcd),.l (es.map eEar)]=some [.l ((xo_ ⟨⟨id,boot,⟨n,ls,ts⟩,hd,st⟩,es⟩).map zI_)]:=by
 rw [aJ3_];simp (disch:=omega) only [↓pq,ps,pz,↓reduceIte,reduceLE,reduceLT,reduceEq,reduceGT,reduceGE,reduceAdd,reduceSub,reduceMul,reduceNeg,ah0_,aGq_ _ _ _ _ _ _ _ _ h1 h2 h3 h4 h5 h6]
 unfold xo_
 cases hk:uR_ ⟨⟨id,boot,⟨n,ls,ts⟩,hd,st⟩,es⟩ with
 | false=>simp (disch:=omega) only [↓pq,ps,pz,↓reduceIte,reduceLE,reduceLT,reduceEq,reduceGT,reduceGE,reduceAdd,reduceSub,reduceMul,reduceNeg,Bool.false_eq_true];rfl
 | true =>
  obtain ⟨hn,hs⟩:=ae6_ hk
  obtain ⟨hl,hl2⟩:=am6_ hn
  have hal:=wo_ ls id
  simp (disch:=omega) only [↓pq,ps,pz,↓reduceIte,reduceLE,reduceLT,reduceEq,reduceGT,reduceGE,reduceAdd,reduceSub,reduceMul,reduceNeg,jl_ _ _ _ _ _ hl hl2,aaz_ _ _ _ _ _ hl hl2,ale_ st (yP_ ls id) (w0_ ls id) id h4 h5 hs (by omega)]
theorem aKa_ (id boot n:Int) (ls:List Link) (ts:List Thing) (hd:List Int) (st:List Rcd) (es:List Ear) (h1:ls.length≤1048576) (h2:ts.length≤1048576) (h3:hd.length≤1048576) (h4:st.length≤1048576) (h5:NearL st) (h6:es.length≤1048576) :
  uE_ [ii id,ii boot,ii n,.l (ls.map zu_),.l (ts.map zt_),.l (hd.map eInt),.l (st.map eRcd),.l (es.map eEar)]=some [.l ((xo_ ⟨⟨id,boot,⟨n,ls,ts⟩,hd,st⟩,es⟩).map zI_)]:=by
 rw [aHp_];simp (disch:=omega) only [↓pq,ps,pz,↓reduceIte,reduceLE,reduceLT,reduceEq,reduceGT,reduceGE,reduceAdd,reduceSub,reduceMul,reduceNeg,ah7_,aH0_ _ _ _ _ _ _ _ _ h1 h2 h3 h4 h5 h6]
 unfold xo_
 cases hk:uR_ ⟨⟨id,boot,⟨n,ls,ts⟩,hd,st⟩,es⟩ with
 | false=>simp (disch:=omega) only [↓pq,ps,pz,↓reduceIte,reduceLE,reduceLT,reduceEq,reduceGT,reduceGE,reduceAdd,reduceSub,reduceMul,reduceNeg,Bool.false_eq_true];rfl
 | true =>
  obtain ⟨hn,hs⟩:=ae6_ hk
  obtain ⟨hl,hl2⟩:=am6_ hn
  have hal:=wo_ ls id
  simp (disch:=omega) only [↓pq,ps,pz,↓reduceIte,reduceLE,reduceLT,reduceEq,reduceGT,reduceGE,reduceAdd,reduceSub,reduceMul,reduceNeg,jn_ _ _ _ _ _ hl hl2,abh_ _ _ _ _ _ hl hl2,aj2_ st (yP_ ls id) (w0_ ls id) id h4 h5 hs (by omega)]
end Go.Proofs.YtiebbbmibbkpcaaGreatC
