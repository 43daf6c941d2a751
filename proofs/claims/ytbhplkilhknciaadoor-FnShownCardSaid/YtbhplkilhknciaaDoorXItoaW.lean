/- The library's numeral, at this program: a function with its contract. Conditions: none. -/
import Derived.Test.YtbhplkilhknciaaDoorChecked
import Derived.Test.YtbhplkilhknciaaDoorKe
import Derived.Test.YtbhplkilhknciaaDoorXItoa
import Derived.Test.YtbhplkilhknciaaDoorXShelf
import Derived.Lib.LaidTab
import Derived.MakeChecks
import Derived.Stop.LaidErr
namespace Go.Proofs.YtbhplkilhknciaaDoorC
open Go.Sort
theorem tab_of {P:Program} {ω:Nat→Option Lb} {w:Go.World} (h:GlobOk ω w) {name:String} (hn:P.globalNamed name=some 0):Lib.TabIs P w name .u64 Lib.pow10Tab:=by
 obtain ⟨_,_,e,z,h3⟩:=h _ (.head _)
 unfold Lib.TabIs Go.World.var?
 rw [hn]
 show (match w.heap[0]? with | some (.cells cs _ _)=>some cs | _=>none)=_
 rw [h3]
theorem glob_of {P:Program} {W:Go.World} {l:List (String × DataW Unit)} {a b:String × DataW Unit} {name:String} {t e:TypeId} {n:Nat} (hl:l=[a,b,(name,Lib.tabData .u64 Lib.pow10Tab)]) (hp:(l.all fun x=>x.2.handleName?.isNone)=true)
  (hn:P.globalNamed name=some 0) (hty:(P.globals[0]?).map (·.type)=some t) (ht:P.underlying t=some (.array n e)) (he:P.underlying e=some (.int .u64)) (hce:P.cellsOf e=1) (hct:P.cellsOf t=n)
  (h:laidMetH P l W):GlobOk (fun _=>none) W:=by
 rw [MakeChecks.laidMetH_plain _ _ _ hp,hl] at h
 have ht2:=Lib.tabIs_of_head hn hty ht he hce hct h.tail.tail
 unfold Lib.TabIs Go.World.var? at ht2
 rw [hn] at ht2
 intro x hx
 obtain rfl:x=(0,Lib.pow10Tab.map (Value.int .u64)):=by
  cases hx with
  | head=>rfl
  | tail _ h=>cases h
 have ht3:(match W.heap[0]? with | some (Obj.cells cs _ _)=>some cs | _=>none)=some (Lib.pow10Tab.map fun z=>Value.int .u64 z).toArray:=ht2
 cases h0:W.heap[0]? with
 | none=>rw [h0] at ht3;cases ht3
 | some o =>
  rw [h0] at ht3
  refine ⟨(Array.getElem?_eq_some_iff.1 h0).1,rfl,?_⟩
  cases o with
  | cells cs e z =>
   simp only [Option.some.injEq] at ht3
   exact ⟨e,z,by rw [ht3]⟩
  | _=>cases ht3
theorem ok_Itoa:CallOk Tryd.prog ⟨[.v false 1],[(false,[.s])]⟩ 26 F_strconv_Itoa:=by
 intro w ω0 bl args ts outs hF hst hin
 obtain ⟨c,args',vs,t1,t2,rfl,rfl,hl,⟨rfl,hag⟩,hd,rfl,rfl⟩:=hin
 match t1,hl,hd with
 | [t],_,⟨hd,_⟩ =>
  simp only [List.append_nil] at hF
  unfold F_strconv_Itoa at hF
  split at hF
  ·rename_i n heq
   simp only [List.cons.injEq,and_true] at heq
   subst heq
   split at hF
   ·rename_i hn
    cases hF
    have hc:c=.int .i64 n:=hd.scalar.1
    subst hc
    refine (Tryd.strconv_Itoa n hn.1 hn.2 w (tab_of hst.gl (by kernel_rfl))).mono ?_
    rintro e w' ⟨rfl,k,os,rfl⟩
    have hold:∀ b,b < w.heap.size→(grow (w.drewN k) os).heap[b]?=w.heap[b]?:=fun b hb=>by
     show (w.heap++os)[b]?=_
     rw [Array.getElem?_append_left hb]
    refine ⟨_,⟨ω0,fun _=>0,fun _ _=>.slice none 0 0,fun _ _=>⟨_,_,_,rfl⟩⟩,[none],_,[],rfl,⟨rfl,rfl,rfl⟩,?_,fun b hb h0=>⟨h0,hold b hb⟩,fun b hb=>⟨hb,hold b (hst.lab b _ hb).1⟩,fun b l hb=>?_,fun h=>absurd h (by decide),(List.append_nil _).symm,List.nodup_nil,?_,rfl⟩
    ·show w.heap.size≤(w.heap++os).size
     rw [Array.size_append];omega
    ·have:=(hst.lab b l hb).1
     show b < (w.heap++os).size
     rw [Array.size_append];omega
    ·exact ⟨[.c (.string ⟨(Go.Lib.itoa n).toArray⟩)],[],[none],[],rfl,rfl,⟨⟨rfl,.c rfl,rfl,trivial⟩,fun x h=>by cases h⟩,trivial⟩
   ·cases hF
  ·cases hF
noncomputable def k_strconv_Itoa:Kok Tryd.prog:=⟨26,⟨[.v false 1],[(false,[.s])]⟩,F_strconv_Itoa,⟨.mk Tryd.func26 (by kernel_rfl) (by kernel_rfl),ok_Itoa⟩⟩
end Go.Proofs.YtbhplkilhknciaaDoorC
