/-
  The engine, the plain laws and the walks that the rows need, part 5. Conditions: none.
-/
import Derived.Test.YtjlkadndgajleaaGreatDoorM4
import Derived.MapKept
set_option linter.unusedVariables false
set_option linter.unusedSimpArgs false
set_option maxHeartbeats 1000000
set_option maxRecDepth 10000
-- MapD
namespace Go.Eng
open Go Go.MapKept
structure fm (es:Array MapEntry) (clk:Nat) (f:Int→Option Value):Prop where
  st:Stamped es clk
  ent:∀x∈es.toList,∃k,x.key= .int .i64 k∧f k=some x.val
  has:∀k v,f k=some v→∃x∈es.toList,x.key= .int .i64 k
def j8 (f:Int→Option Value) (k:Int) (v:Value):Int→Option Value:=fun j=>if j=k then some v else f j
theorem fm.empty (clk:Nat):fm #[] clk (fun _=>none):=⟨stamped_empty clk,(fun x hx=>by simp at hx),(fun k v h=>by cases h)⟩
theorem fm.keys {es:Array MapEntry} {clk:Nat} {f:Int→Option Value} (h:fm es clk f):∀x∈es.toList,IsKey (.int .i64) x.key:=fun x hx=>by
  obtain⟨k,e,_⟩:=h.ent x hx
  rw [e];rfl
theorem fm.push {es:Array MapEntry} {clk:Nat} {f:Int→Option Value} (h:fm es clk f) {k:Int} {v:Value} (hn:∀x∈es.toList,x.key≠ .int .i64 k):fm (es.push {key:= .int .i64 k,val:=v,born:=clk}) (clk+1) (j8 f k v):=by
  refine⟨stamped_push h.st hn,fun x hx=>?_,fun j u hj=>?_⟩
  · simp only [Array.toList_push, List.mem_append, List.mem_singleton] at hx
    rcases hx with hx|rfl
    · obtain ⟨j, e1, e2⟩ := h.ent x hx
      refine⟨j,e1,?_⟩
      unfold j8
      rw [if_neg (fun e=>hn x hx (by rw [e1,e])),e2]
    · exact⟨k,rfl,by unfold j8;rw [if_pos rfl]⟩
  · unfold j8 at hj
    split at hj
    · rename_i e; subst e
      exact⟨_,by simp only [Array.toList_push,List.mem_append,List.mem_singleton];exact .inr rfl,rfl⟩
    · obtain ⟨x, hx, e⟩ := h.has j u hj
      exact⟨x,by simp only [Array.toList_push,List.mem_append,List.mem_singleton];exact .inl hx,e⟩
theorem fm.modify {es:Array MapEntry} {clk:Nat} {f:Int→Option Value} (h:fm es clk f) {k:Int} {v:Value} {j:Nat} {e:MapEntry} (hj:es[j]? =some e) (he:e.key= .int .i64 k):fm (es.modify j fun e=> {e with key:= .int .i64 k,val:=v}) clk (j8 f k v):=by
  have hkey:∀e',es[j]? =some e'→({e' with key:= .int .i64 k,val:=v}:MapEntry).key=e'.key:=fun e' he'=>by rw [hj]at he';cases he';exact he.symm
  have hget:∀i:Nat,(es.modify j fun e=> {e with key:= .int .i64 k,val:=v})[i]? =if j=i then some {e with key:= .int .i64 k,val:=v}else es[i]? :=fun i=>by
    rw [Array.getElem?_modify]
    split
    · rename_i hji;subst hji;rw [hj];rfl
    · rfl
  refine⟨stamped_modify h.st _ _ (fun _ _=>rfl) (fun e' _ he'=>hkey e' he'),fun x hx=>?_,fun i u hi=>?_⟩
  · obtain ⟨i, hi⟩ := List.mem_iff_getElem?.1 hx
    rw [Array.getElem?_toList,hget]at hi
    split at hi
    · simp only [Option.some.injEq] at hi
      subst hi
      exact⟨k,rfl,by unfold j8;rw [if_pos rfl]⟩
    · rename_i hji
      obtain⟨i',e1,e2⟩:=h.ent x (by rw [List.mem_iff_getElem?];exact⟨i,by rw [Array.getElem?_toList];exact hi⟩)
      refine⟨i',e1,?_⟩
      unfold j8
      rw [if_neg ?_,e2]
      intro hk
      have hnd:=h.st.2.2
      have g1:(es.toList.map (·.key))[j]? =some (.int .i64 k):=by rw [List.getElem?_map,Array.getElem?_toList,hj];simp [he]
      have g2:(es.toList.map (·.key))[i]? =some (.int .i64 k):=by rw [List.getElem?_map,Array.getElem?_toList,hi];simp [e1,hk]
      have hlt:=(List.getElem?_eq_some_iff.1 g1).1
      exact hji ((List.getElem?_inj hlt hnd).1 (g1.trans g2.symm))
  · unfold j8 at hi
    split at hi
    · rename_i e'; subst e'
      exact⟨{e with key:= .int .i64 i,val:=v},by rw [List.mem_iff_getElem?];exact⟨j,by rw [Array.getElem?_toList,hget,if_pos rfl]⟩,rfl⟩
    · rename_i hne
      obtain⟨x,hx,e1⟩:=h.has i u hi
      obtain⟨q,hq⟩:=List.mem_iff_getElem?.1 hx
      rw [Array.getElem?_toList]at hq
      refine⟨x,?_,e1⟩
      rw [List.mem_iff_getElem?]
      refine⟨q,?_⟩
      rw [Array.getElem?_toList,hget,if_neg ?_,hq]
      intro hqj
      subst hqj
      rw [hj]at hq;cases hq
      rw [he]at e1
      simp only [Value.int.injEq,true_and]at e1
      exact hne e1.symm
end Go.Eng
