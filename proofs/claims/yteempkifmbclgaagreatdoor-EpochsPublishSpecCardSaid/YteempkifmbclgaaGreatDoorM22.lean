/-
  The engine, the plain laws and the walks that the rows need, part 22. Conditions: none.
-/
import Derived.Test.YteempkifmbclgaaGreatDoorM21
set_option linter.unusedVariables false
set_option linter.unusedSimpArgs false
set_option maxHeartbeats 1000000
set_option maxRecDepth 10000
-- E6Q
namespace Go.Abs.D2
open Go Go.Eng Go.Abs
def l9 (σ:Int→Int) (last:Int):List Ch→Bool
  | []=>true
  |c::r=>fF σ last c&&l9 σ c.id r
theorem JB {σ ρ:Int→Int} {la:Int} {c:Ch} (h:∀k,la<k→σ k=ρ k):fF σ la c=fF ρ la c:=by
  unfold fF
  by_cases hl:la<c.id
  · rw [h _ hl]
  · rw [decide_eq_false hl];rfl
theorem Cx : ∀ {l : List Ch} {σ ρ : Int → Int} {la : Int}, (∀ k, la < k → σ k = ρ k) → eH σ la l = l9 ρ la l
  | [],_,_,_,_=>rfl
  | c :: r, σ, ρ, la, h => by
    rw [eH,l9,JB h]
    cases hb:fF ρ la c with
    |false=>rfl
    | true =>
      have hl:la<c.id:=by
        unfold fF at hb
        simp only [Bool.and_eq_true,decide_eq_true_eq]at hb
        omega
      rw [Cx (l:=r) (σ:=kD σ c.id c.st) (ρ:=ρ) (la:=c.id) fun k hk=>?_]
      unfold kD
      rw [if_neg aq]
      exact h k aq
theorem mL (σ:Int→Int) (la:Int) (l:List Ch):eH σ la l=l9 σ la l:=Cx fun _ _=>rfl
theorem nL {σ:Int→Int} {last:Int} {l:List Ch} {i:Nat} {c:Ch} (h:l[i]? =some c) (hb:fF σ last c=false):l9 σ last (l.drop i)=false:=by
  rw [List.drop_eq_getElem_cons (List.getElem?_eq_some_iff.1 h).1,(List.getElem?_eq_some_iff.1 h).2,l9,hb];rfl
theorem Cw {σ:Int→Int} {last:Int} {l:List Ch} {i:Nat} {c:Ch} (h:l[i]? =some c) (hb:fF σ last c=true):l9 σ last (l.drop i)=l9 σ c.id (l.drop (i+1)):=by
  rw [List.drop_eq_getElem_cons (List.getElem?_eq_some_iff.1 h).1,(List.getElem?_eq_some_iff.1 h).2,l9,hb];rfl
def jo (l : List Ch) : Nat → Int
  |0=> -1
  | i + 1 => match l[i]? with
    |some c=>c.id
    |none=> -1
theorem tQ {l:List Ch} {i:Nat} {c:Ch} (h:l[i]? =some c):jo l (i+1)=c.id:=by rw [jo,h]
theorem LN {l:List Ch} {i:Nat} {p:Ch} (h0:0<i) (h:l[i - 1]? =some p):jo l i=p.id:=by
  obtain⟨j,rfl⟩:∃j,i=j+1:=⟨i - 1,by omega⟩
  exact tQ h
def mw (c:Ch):Prop:=0≤c.id∧c.id<1024∧0≤c.st∧c.st≤4
theorem y2 {σ:Int→Int} {la:Int} {c:Ch} (hla: -1≤la):fF σ la c=true↔mw c∧la<c.id∧c.st≠σ c.id∧σ c.id≠2:=by
  unfold fF mw
  simp only [Bool.and_eq_true,decide_eq_true_eq,bne_iff_ne]
  constructor
  · rintro ⟨⟨⟨⟨h1, h2⟩, h3⟩, h4⟩, h5, h6⟩
    exact⟨⟨by omega,h2,h3,h4⟩,h1,h5,h6⟩
  · rintro ⟨⟨h1, h2, h3, h4⟩, h5, h6, h7⟩
    exact⟨⟨⟨⟨h5,h2⟩,h3⟩,h4⟩,h6,h7⟩
theorem nK {σ:Int→Int} {la:Int} {c:Ch} (hla: -1≤la) (h:¬(mw c∧la<c.id∧c.st≠σ c.id∧σ c.id≠2)):fF σ la c=false:=by
  cases hb:fF σ la c with
  |false=>rfl
  |true=>exact absurd ((y2 hla).1 hb) h
theorem Qu {σ:Int→Int} {l:List Ch} {i:Nat} {c:Ch} (hc:l[i]? =some c) (hla: -1≤jo l i):
    (c.id<0∧fF σ (jo l i) c=false)∨(0≤c.id∧1024≤c.id∧fF σ (jo l i) c=false)∨((0≤c.id∧c.id<1024)∧c.st<0∧fF σ (jo l i) c=false)∨((0≤c.id∧c.id<1024∧0≤c.st)∧4<c.st∧fF σ (jo l i) c=false)
    ∨(mw c∧0<i∧(∃p,l[i - 1]? =some p∧c.id≤p.id)∧fF σ (jo l i) c=false)
    ∨(mw c∧i=0∧c.st=σ c.id∧fF σ (jo l i) c=false)∨(mw c∧0<i∧(∃p,l[i - 1]? =some p∧p.id<c.id)∧c.st=σ c.id∧fF σ (jo l i) c=false)
    ∨(mw c∧i=0∧c.st≠σ c.id∧σ c.id=2∧fF σ (jo l i) c=false)∨(mw c∧0<i∧(∃p,l[i - 1]? =some p∧p.id<c.id)∧c.st≠σ c.id∧σ c.id=2∧fF σ (jo l i) c=false)
    ∨(mw c∧i=0∧c.st≠σ c.id∧σ c.id≠2∧fF σ (jo l i) c=true)∨(mw c∧0<i∧(∃p,l[i - 1]? =some p∧p.id<c.id)∧c.st≠σ c.id∧σ c.id≠2∧fF σ (jo l i) c=true):=by
  by_cases h1:c.id<0
  · exact .inl ⟨h1,nK hla fun h=>by have:=h.1.1;omega⟩
  by_cases h2:1024≤c.id
  · exact .inr (.inl ⟨by omega,h2,nK hla fun h=>by have:=h.1.2.1;omega⟩)
  by_cases h3:c.st<0
  · exact .inr (.inr (.inl ⟨by omega,h3,nK hla fun h=>by have:=h.1.2.2.1;omega⟩))
  by_cases h4:4<c.st
  · exact .inr (.inr (.inr (.inl ⟨by omega,h4,nK hla fun h=>by have:=h.1.2.2.2;omega⟩)))
  have hr:mw c:=⟨by omega,by omega,by omega,by omega⟩
  rcases Nat.eq_zero_or_pos i with h0|h0
  · have hl0 : jo l i = -1 := by rw [h0]; rfl
    by_cases h6:c.st=σ c.id
    · exact .inr (.inr (.inr (.inr (.inr (.inl ⟨hr,h0,h6,nK hla fun h=>h.2.2.1 h6⟩)))))
    by_cases h7:σ c.id=2
    · exact .inr (.inr (.inr (.inr (.inr (.inr (.inr (.inl ⟨hr,h0,h6,h7,nK hla fun h=>h.2.2.2 h7⟩)))))))
    · exact .inr (.inr (.inr (.inr (.inr (.inr (.inr (.inr (.inr (.inl ⟨hr,h0,h6,h7,(y2 hla).2 ⟨hr,by rw [hl0];have:=hr.1;omega,h6,h7⟩⟩)))))))))
  · obtain ⟨p, hp⟩ : ∃ p, l[i - 1]? = some p := ⟨_, List.getElem?_eq_getElem (by have := (List.getElem?_eq_some_iff.1 hc).1; omega)⟩
    have hlp:=LN h0 hp
    by_cases h5:c.id≤p.id
    · exact .inr (.inr (.inr (.inr (.inl ⟨hr,h0,⟨p,hp,h5⟩,nK hla fun h=>by have:=h.2.1;omega⟩))))
    by_cases h6:c.st=σ c.id
    · exact .inr (.inr (.inr (.inr (.inr (.inr (.inl ⟨hr,h0,⟨p,hp,by omega⟩,h6,nK hla fun h=>h.2.2.1 h6⟩))))))
    by_cases h7:σ c.id=2
    · exact .inr (.inr (.inr (.inr (.inr (.inr (.inr (.inr (.inl ⟨hr,h0,⟨p,hp,by omega⟩,h6,h7,nK hla fun h=>h.2.2.2 h7⟩))))))))
    · exact .inr (.inr (.inr (.inr (.inr (.inr (.inr (.inr (.inr (.inr ⟨hr,h0,⟨p,hp,by omega⟩,h6,h7,(y2 hla).2 ⟨hr,by omega,h6,h7⟩⟩)))))))))
def jN (τ:Int→Int) (m:Nat):List Ch:=(((List.range m).map fun k:Nat=>(k:Int)).filter fun n=>τ n !=0).map fun k=>⟨k,τ k⟩
theorem Cv {τ:Int→Int} {m:Nat} (h:τ (m:Int)≠0):jN τ (m+1)=jN τ m++ [⟨(m:Int),τ m⟩]:=by
  unfold jN
  rw [List.range_succ,List.map_append,List.filter_append,List.map_append]
  simp [h]
theorem Cu {τ:Int→Int} {m:Nat} (h:τ (m:Int)=0):jN τ (m+1)=jN τ m:=by
  unfold jN
  rw [List.range_succ,List.map_append,List.filter_append,List.map_append]
  simp [h]
theorem JC (τ:Int→Int) (m:Nat):(jN τ m).length≤m:=by
  unfold jN
  rw [List.length_map]
  exact Nat.le_trans (List.length_filter_le ..) aA
def tM (l:List Ep):A:=match eC l with
  |none=> .tu [.nl,.b false]
  |some σ=> .tu [eo (eL σ),.b true]
theorem iQ {l:List Ep} (h:eC l=none):tM l= .tu [.nl,.b false]:=by unfold tM;rw [h]
theorem zW {l:List Ep} {σ:Int→Int} (h:eC l=some σ):tM l= .tu [eo (eL σ),.b true]:=by unfold tM;rw [h]
def lE (l : List Ep) : Nat → Int
  |0=> -1
  | i + 1 => match l[i]? with
    |some e=>e.day
    |none=> -1
def nZ (l:List Ep):Nat→List UInt8
  |0=>zD
  |i+1=>rj l i
theorem tv {l:List Ep} {i:Nat} {e:Ep} (h:l[i]? =some e):lE l (i+1)=e.day:=by rw [lE,h]
theorem Kt {l:List Ep} {i:Nat} {p:Ep} (h0:0<i) (h:l[i - 1]? =some p):lE l i=p.day:=by
  obtain⟨j,rfl⟩:∃j,i=j+1:=⟨i - 1,by omega⟩
  exact tv h
theorem NR {l:List Ep} {i:Nat} {p:Ep} (h0:0<i) (h:l[i - 1]? =some p):nZ l i=dX p:=by
  obtain⟨j,rfl⟩:∃j,i=j+1:=⟨i - 1,by omega⟩
  exact zt h
def k6 (e:Ep) (iss:Int) (i:Nat):Prop:=0≤e.iss∧e.iss<8∧e.iss=iss∧e.no=(i:Int)∧0≤e.day∧e.day<1024
theorem DC {iss:Int} {i:Nat} {day:Int} {prev:List UInt8} {e:Ep} (hd: -1≤day):eR iss i day prev e=true↔k6 e iss i∧day<e.day∧e.prev=prev∧e.sg.a=(i:Int):=by
  unfold eR k6
  simp only [Bool.and_eq_true,decide_eq_true_eq,beq_iff_eq]
  constructor
  · rintro ⟨⟨⟨⟨h1, h2⟩, h3⟩, ⟨h4, h5⟩, h6⟩, h7, h8⟩
    exact⟨⟨h2,h3,h1,h4,by omega,h8⟩,h7,h6,h5⟩
  · rintro ⟨⟨h2, h3, h1, h4, _, h8⟩, h7, h6, h5⟩
    exact⟨⟨⟨⟨h1,h2⟩,h3⟩,⟨h4,h5⟩,h6⟩,h7,h8⟩
theorem nP {iss:Int} {i:Nat} {day:Int} {prev:List UInt8} {e:Ep} (hd: -1≤day) (h:¬(k6 e iss i∧day<e.day∧e.prev=prev∧e.sg.a=(i:Int))):eR iss i day prev e=false:=by
  cases hb:eR iss i day prev e with
  |false=>rfl
  |true=>exact absurd ((DC hd).1 hb) h
theorem DZ (e : Ep) (iss : Int) (i : Nat) (day : Int) (prev : List UInt8) (τ : Int → Int) (hd : -1 ≤ day) :
    (e.iss<0∧eR iss i day prev e=false)∨(0≤e.iss∧8≤e.iss∧eR iss i day prev e=false)∨((0≤e.iss∧e.iss<8)∧e.iss≠iss∧eR iss i day prev e=false)∨((0≤e.iss∧e.iss<8∧e.iss=iss)∧e.no≠(i:Int)∧eR iss i day prev e=false)
    ∨((0≤e.iss∧e.iss<8∧e.iss=iss∧e.no=(i:Int))∧e.day<0∧eR iss i day prev e=false)∨((0≤e.iss∧e.iss<8∧e.iss=iss∧e.no=(i:Int)∧0≤e.day)∧1024≤e.day∧eR iss i day prev e=false)
    ∨(k6 e iss i∧e.day≤day∧eR iss i day prev e=false)∨(k6 e iss i∧day<e.day∧e.prev≠prev∧eR iss i day prev e=false)∨(k6 e iss i∧day<e.day∧e.prev=prev∧eH τ (-1) e.ch=false)
    ∨(k6 e iss i∧day<e.day∧e.prev=prev∧eH τ (-1) e.ch=true∧e.sg.a≠(i:Int)∧eR iss i day prev e=false)∨(k6 e iss i∧day<e.day∧e.prev=prev∧eH τ (-1) e.ch=true∧e.sg.a=(i:Int)∧eR iss i day prev e=true):=by
  by_cases h1:e.iss<0
  · exact .inl ⟨h1,nP hd fun h=>by have:=h.1.1;omega⟩
  by_cases h2:8≤e.iss
  · exact .inr (.inl ⟨by omega,h2,nP hd fun h=>by have:=h.1.2.1;omega⟩)
  by_cases h3:e.iss=iss
  · by_cases h4 : e.no = (i : Int)
    · by_cases h5 : e.day < 0
      · exact .inr (.inr (.inr (.inr (.inl ⟨⟨by omega,by omega,h3,h4⟩,h5,nP hd fun h=>by have:=h.1.2.2.2.2.1;omega⟩))))
      by_cases h6:1024≤e.day
      · exact .inr (.inr (.inr (.inr (.inr (.inl ⟨⟨by omega,by omega,h3,h4,by omega⟩,h6,nP hd fun h=>by have:=h.1.2.2.2.2.2;omega⟩)))))
      have hr:k6 e iss i:=⟨by omega,by omega,h3,h4,by omega,by omega⟩
      by_cases h7:e.day≤day
      · exact .inr (.inr (.inr (.inr (.inr (.inr (.inl ⟨hr,h7,nP hd fun h=>by have:=h.2.1;omega⟩))))))
      by_cases h8:e.prev=prev
      · cases h9 : eH τ (-1) e.ch with
        |false=>exact .inr (.inr (.inr (.inr (.inr (.inr (.inr (.inr (.inl ⟨hr,by omega,h8,rfl⟩))))))))
        | true =>
          by_cases h10:e.sg.a=(i:Int)
          · exact .inr (.inr (.inr (.inr (.inr (.inr (.inr (.inr (.inr (.inr ⟨hr,by omega,h8,rfl,h10,(DC hd).2 ⟨hr,by omega,h8,h10⟩⟩)))))))))
          · exact .inr (.inr (.inr (.inr (.inr (.inr (.inr (.inr (.inr (.inl ⟨hr,by omega,h8,rfl,h10,nP hd fun h=>h10 h.2.2.2⟩)))))))))
      · exact .inr (.inr (.inr (.inr (.inr (.inr (.inr (.inl ⟨hr,by omega,h8,nP hd fun h=>h8 h.2.2.1⟩)))))))
    · exact .inr (.inr (.inr (.inl ⟨⟨by omega,by omega,h3⟩,h4,nP hd fun h=>h4 h.1.2.2.2.1⟩)))
  · exact .inr (.inr (.inl ⟨⟨by omega,by omega⟩,h3,nP hd fun h=>h3 h.1.2.2.1⟩))
-- E6R
theorem K7 (e:Ep) (iss:Int) (i:Nat) (day:Int) (prev:List UInt8) (τ:Int→Int) (hd:day= -1):
    (e.iss<0∧eR iss i day prev e=false)∨(0≤e.iss∧8≤e.iss∧eR iss i day prev e=false)∨((0≤e.iss∧e.iss<8)∧e.iss≠iss∧eR iss i day prev e=false)∨((0≤e.iss∧e.iss<8∧e.iss=iss)∧e.no≠(i:Int)∧eR iss i day prev e=false)
    ∨((0≤e.iss∧e.iss<8∧e.iss=iss∧e.no=(i:Int))∧e.day<0∧eR iss i day prev e=false)∨((0≤e.iss∧e.iss<8∧e.iss=iss∧e.no=(i:Int)∧0≤e.day)∧1024≤e.day∧eR iss i day prev e=false)
    ∨(k6 e iss i∧day<e.day∧e.prev≠prev∧eR iss i day prev e=false)∨(k6 e iss i∧day<e.day∧e.prev=prev∧eH τ (-1) e.ch=false)
    ∨(k6 e iss i∧day<e.day∧e.prev=prev∧eH τ (-1) e.ch=true∧e.sg.a≠(i:Int)∧eR iss i day prev e=false)∨(k6 e iss i∧day<e.day∧e.prev=prev∧eH τ (-1) e.ch=true∧e.sg.a=(i:Int)∧eR iss i day prev e=true):=by
  rcases DZ e iss i day prev τ aq with h|h|h|h|h|h|h|h|h|h|h
  · exact .inl h
  · exact .inr (.inl h)
  · exact .inr (.inr (.inl h))
  · exact .inr (.inr (.inr (.inl h)))
  · exact .inr (.inr (.inr (.inr (.inl h))))
  · exact .inr (.inr (.inr (.inr (.inr (.inl h)))))
  · have h1 := h.1.2.2.2.2.1
    have h2:=h.2.1
    omega
  · exact .inr (.inr (.inr (.inr (.inr (.inr (.inl h))))))
  · exact .inr (.inr (.inr (.inr (.inr (.inr (.inr (.inl h)))))))
  · exact .inr (.inr (.inr (.inr (.inr (.inr (.inr (.inr (.inl h))))))))
  · exact .inr (.inr (.inr (.inr (.inr (.inr (.inr (.inr (.inr h))))))))
theorem JD: []=eL σ0:=I7 (l:= []) rD
end Go.Abs.D2
-- E6H
namespace Go.Abs.D2
open Go Go.Eng Go.Abs Go.Proofs
theorem r9 (e:Ep) (h:e.ok):bU Tryz.prog 23 [.ag e.cells] (cl (.ag ((dX e).map u8))):=by
 refine enter Tryz.func23 rfl Tryz.ntmps23 aw (Nat.le_of_ble_eq_true rfl) fun w0 X0 hI=>?_
 refine aa [670,28,654] ?_
 have hel:=tE h
 refine bI <| s1 (cu cT rfl rfl h.len) rfl <| bJ rfl (b7 false rfl (.cons (.pure pu) (.nil)) (NZ e h) pu (.inl rfl) rfl ?_)
 refine bJ rfl (b7 false rfl (.cons (.pure pu) (.cons (.pure pu) (.nil))) (bU.cast (kQ xP (jk e).enc aq az) (congrArg (fun l:List UInt8=>A.ag (l.map u8)) (tr e).symm)) pu (.inl rfl) rfl ?_)
 refine aa [712,412] ?_
 rfl
theorem AU (l:List Ch) (id:Int) (hn:l.length≤maxLen):bU Tryz.prog 101 [eo l,.i .i64 id] (cl (.i .i64 (lU l id))):=by
 refine enter Tryz.func101 rfl Tryz.ntmps101 aw (Nat.le_of_ble_eq_true rfl) fun w0 X0 hI=>?_
 refine aa [645,703] ?_
 simp only [maxLen]at hn
 refine aa [761] ?_
 refine c5 (ι:=Nat) (fun i=> [(0,eo l),(1,.i .i64 id),(5,nJ i)]) (fun i=>⟨[]⟩) (fun i=>i≤l.length∧lU l id=lU (l.drop i) id) (fun i=>l.length - i) ?_ ?_
 ·exact c4 (0) (⟨Nat.zero_le _,rfl⟩) [] hI rfl rfl ⟨⟨_,rfl,.pure pu⟩,⟨_,rfl,.pure pu⟩,⟨_,rfl,.pure pu⟩,trivial⟩ trivial
 rintro i ⟨hi,hst⟩
 refine aa [674,34,646] ?_
 refine cm rfl (fun hc9=>?_) (fun hc9=>?_)
 ·have h9 : i < l.length := by have := of_decide_eq_true hc9; omega
  obtain⟨c,hc⟩:∃c,l[i]? =some c:=⟨_,List.getElem?_eq_getElem h9⟩
  refine aa [655,661,128,143,299,0,646] ?_
  refine cm rfl (fun hc18=>?_) (fun hc18=>?_)
  ·have h18 : c.id = id := by simpa using hc18
   refine aa [661,128,143,413,650,790,15] ?_
   exact congrArg (A.i .i64) (hst.trans (PU hc h18)).symm
  ·have h18 : ¬ c.id = id := by simpa using hc18
   refine aa [676] ?_
   exact cO (i+1) (⟨by omega,hst.trans (PT hc h18)⟩) aq [] hI rfl rfl ⟨⟨_,rfl,.pure pu⟩,⟨_,rfl,.pure pu⟩,⟨_,rfl,.pure pu⟩,trivial⟩ trivial
 ·obtain rfl : i = l.length := by have := of_decide_eq_false hc9; omega
  rw [List.drop_length]at hst
  refine aa [683,657,15] ?_
  exact congrArg (A.i .i64) hst.symm
theorem nf (σ:Int→Int) (S:List Ch) (hS:S=eL σ) (hs:jg σ) (l:List Ch) (hn:l.length≤maxLen):bU Tryz.prog 56 [eo S,eo l] (cl (.b (eH σ (-1) l))):=by
 refine enter Tryz.func56 rfl Tryz.ntmps56 aw (Nat.le_of_ble_eq_true rfl) fun w0 X0 hI=>?_
 refine aa [651,3] ?_
 simp only [maxLen]at hn
 have hSl:S.length≤1024:=by rw [hS];exact vt σ
 refine aa [761] ?_
 refine c5 (ι:=Nat) (fun i=> [(0,eo S),(1,eo l),(5,nJ i)]) (fun i=>⟨[]⟩) (fun i=>i≤l.length∧l9 σ (-1) l=l9 σ (jo l i) (l.drop i)∧ -1≤jo l i) (fun i=>l.length - i) ?_ ?_
 ·exact c4 (0) (⟨Nat.zero_le _,rfl,Int.le_refl _⟩) [] hI rfl rfl ⟨⟨_,rfl,.pure pu⟩,⟨_,rfl,.pure pu⟩,⟨_,rfl,.pure pu⟩,trivial⟩ trivial
 rintro i ⟨hi,hst,hla⟩
 refine aa [674,34,646] ?_
 refine cm rfl (fun hc10=>?_) (fun hc10=>?_)
 ·have h10 : i < l.length := by have := of_decide_eq_true hc10; omega
  obtain⟨c,hc⟩:∃c,l[i]? =some c:=⟨_,List.getElem?_eq_getElem h10⟩
  refine aa [655,680,128,143,299] ?_
  refine bJ rfl (b7 false rfl (.cons (.pure pu) (.cons (.pure pu) (.nil))) (bU.cast (AU S c.id aC) (congrArg (A.i .i64) (by rw [hS];exact A9 hs _):_=A.i .i64 (σ c.id))) pu (.inl rfl) rfl ?_)
  refine aa [652] ?_
  rcases Qu (σ:=σ) hc hla with hcs|hcs|hcs|hcs|hcs|hcs|hcs|hcs|hcs|hcs|hcs
  ·obtain ⟨h1, hb⟩ := hcs
   refine aa [831,300,6,797,744,744,741,791,14,744,14,780,768] ?_
   exact congrArg A.b (((mL ..).trans hst).trans (nL hc hb)).symm
  ·obtain ⟨h0, h1, hb⟩ := hcs
   refine aa [833,32,744,744,741,791,14,744,14,780,768] ?_
   exact congrArg A.b (((mL ..).trans hst).trans (nL hc hb)).symm
  ·obtain ⟨⟨h0, h1⟩, h2, hb⟩ := hcs
   refine aa [769,32,744,741,791,14,744,14,780,768] ?_
   exact congrArg A.b (((mL ..).trans hst).trans (nL hc hb)).symm
  ·obtain ⟨⟨h0, h1, h2⟩, h3, hb⟩ := hcs
   refine aa [769,755,32,741,791,14,744,14,780,768] ?_
   exact congrArg A.b (((mL ..).trans hst).trans (nL hc hb)).symm
  ·obtain ⟨⟨r1, r2, r3, r4⟩, h0, ⟨p, hp, h5⟩, hb⟩ := hcs
   refine aa [769,755,766,76,190,144,191,798,32,10,744,14,780,768] ?_
   exact congrArg A.b (((mL ..).trans hst).trans (nL hc hb)).symm
  ·obtain ⟨⟨r1, r2, r3, r4⟩, h0, h6, hb⟩ := hcs
   refine aa [769,755,787,729,693,693,693,10,666,783,10,192,780,768] ?_
   exact congrArg A.b (((mL ..).trans hst).trans (nL hc hb)).symm
  ·obtain ⟨⟨r1, r2, r3, r4⟩, h0, ⟨p, hp, h5⟩, h6, hb⟩ := hcs
   refine aa [769,755,766,76,190,144,191,798,729,666,783,10,192,780,768] ?_
   exact congrArg A.b (((mL ..).trans hst).trans (nL hc hb)).symm
  ·obtain ⟨⟨r1, r2, r3, r4⟩, h0, h6, h7, hb⟩ := hcs
   refine aa [769,755,787,729,693,693,693,10,666,783,10,110,666,10,192,768] ?_
   exact congrArg A.b (((mL ..).trans hst).trans (nL hc hb)).symm
  ·obtain ⟨⟨r1, r2, r3, r4⟩, h0, ⟨p, hp, h5⟩, h6, h7, hb⟩ := hcs
   refine aa [769,755,766,76,190,144,191,798,729,666,783,10,110,666,10,192,768] ?_
   exact congrArg A.b (((mL ..).trans hst).trans (nL hc hb)).symm
  ·obtain ⟨⟨r1, r2, r3, r4⟩, h0, h6, h7, hb⟩ := hcs
   refine aa [769,755,787,729,693,693,693,10,666,783,10,110,666,10,110,11,673,676] ?_
   exact cO (i+1) (⟨by omega,hst.trans (by rw [Cw hc hb,tQ hc]),by rw [tQ hc];omega⟩) aq [] hI rfl rfl ⟨⟨_,rfl,.pure pu⟩,⟨_,rfl,.pure pu⟩,⟨_,rfl,.pure pu⟩,trivial⟩ trivial
  ·obtain ⟨⟨r1, r2, r3, r4⟩, h0, ⟨p, hp, h5⟩, h6, h7, hb⟩ := hcs
   refine aa [769,755,766,76,190,144,191,798,729,666,783,10,110,666,10,110,11,673,676] ?_
   exact cO (i+1) (⟨by omega,hst.trans (by rw [Cw hc hb,tQ hc]),by rw [tQ hc];omega⟩) aq [] hI rfl rfl ⟨⟨_,rfl,.pure pu⟩,⟨_,rfl,.pure pu⟩,⟨_,rfl,.pure pu⟩,trivial⟩ trivial
 ·obtain rfl : i = l.length := by have := of_decide_eq_false hc10; omega
  rw [List.drop_length]at hst
  refine aa [734,15] ?_
  exact congrArg A.b ((mL ..).trans hst).symm
theorem xp (σ:Int→Int) (S:List Ch) (hS:S=eL σ) (hs:jg σ) (l:List Ch) (hn:l.length≤maxLen):bU Tryz.prog 57 [eo S,eo l] (cl (eo (eL (cv σ l)))):=by
 refine enter Tryz.func57 rfl Tryz.ntmps57 aw (Nat.le_of_ble_eq_true rfl) fun w0 X0 hI=>?_
 refine aa [651] ?_
 simp only [maxLen]at hn
 have hSl:S.length≤1024:=by rw [hS];exact vt σ
 obtain⟨τ,hτ⟩:∃τ,τ=cv σ l:=⟨_,rfl⟩
 refine bI <| bJ rfl (gC 9 rfl Tryz.underlying31 c8 rfl rfl rfl aD rfl rfl rfl rfl ?_)
 refine aa [690] ?_
 refine c5 (ι:=Nat) (fun m=> [(0,eo S),(1,eo l),(5,.sl 9 2 0 (jN τ m).length),(6,nJ m)]) (fun m=>⟨[(9,some (gU (jN τ m)))]⟩) (fun m=>m≤1024) (fun m=>1024 - m) ?_ ?_
 ·exact c4 (0) (Nat.zero_le _) [(9,some 9)] hI rfl rfl ⟨⟨_,rfl,.pure pu⟩,⟨_,rfl,.pure pu⟩,⟨_,rfl,.sl rfl ar⟩,⟨_,rfl,.pure pu⟩,trivial⟩ ⟨.inr ⟨_,_,rfl,rfl,.of aX (.pure bO)⟩,trivial⟩
 intro m hm
 have hjl:=JC τ m
 refine aa [695] ?_
 refine cm rfl (fun hc11=>?_) (fun hc11=>?_)
 ·have h11 : m < 1024 := by have := of_decide_eq_true hc11; omega
  refine aa [655,661] ?_
  refine bJ rfl (b7 false rfl (.cons (.pure pu) (.cons (.pure pu) (.nil))) (bU.cast (AU S (m:Nat) aC) (congrArg (A.i .i64) (by rw [hS];exact A9 hs _):_=A.i .i64 (σ (m:Nat)))) pu (.inl rfl) rfl ?_)
  refine aa [690] ?_
  refine c5 (ι:=Nat×Int) (fun⟨j,w⟩=> [(0,eo S),(1,eo l),(5,.sl 9 2 0 (jN τ m).length),(6,nJ m),(7,.i .i64 w),(8,nJ j)]) (fun⟨j,w⟩=>⟨[(9,some (gU (jN τ m)))]⟩) (fun⟨j,w⟩=>j≤l.length∧w=cv σ (l.take j) (m:Nat)) (fun⟨j,w⟩=>l.length - j) ?_ ?_
  ·exact c4 ((0,σ (m:Nat))) (⟨Nat.zero_le _,by simp [cv]⟩) [(9,some 9)] hI rfl rfl ⟨⟨_,rfl,.pure pu⟩,⟨_,rfl,.pure pu⟩,⟨_,rfl,.sl rfl ar⟩,⟨_,rfl,.pure pu⟩,⟨_,rfl,.pure pu⟩,⟨_,rfl,.pure pu⟩,trivial⟩ ⟨.inr ⟨_,_,rfl,rfl,.pure bO⟩,trivial⟩
  rintro⟨j,w⟩ ⟨hj,hw⟩
  dsimp only
  refine aa [674,34,646] ?_
  refine cm rfl (fun hc20=>?_) (fun hc20=>?_)
  ·have h20 : j < l.length := by have := of_decide_eq_true hc20; omega
   obtain⟨c,hc⟩:∃c,l[j]? =some c:=⟨_,List.getElem?_eq_getElem h20⟩
   refine aa [655,661,414,143,299,0,646] ?_
   refine cm rfl (fun hc29=>?_) (fun hc29=>?_)
   ·have h29 : c.id = (m : Nat) := by simpa using hc29
    refine aa [658,414,143,413,686] ?_
    exact cO (x:=(j,w)) ((j+1,c.st)) (⟨show j+1≤l.length by omega,by rw [CC σ hc,if_pos h29]⟩) (show l.length - (j+1)<l.length - j by omega) [(9,some 9)] hI rfl rfl ⟨⟨_,rfl,.pure pu⟩,⟨_,rfl,.pure pu⟩,⟨_,rfl,.sl rfl ar⟩,⟨_,rfl,.pure pu⟩,⟨_,rfl,.pure pu⟩,⟨_,rfl,.pure pu⟩,trivial⟩ ⟨.inr ⟨_,_,rfl,rfl,.pure bO⟩,trivial⟩
   ·have h29 : ¬ c.id = (m : Nat) := by simpa using hc29
    refine aa [676] ?_
    exact cO (x:=(j,w)) ((j+1,w)) (⟨show j+1≤l.length by omega,by rw [CC σ hc,if_neg h29];exact hw⟩) (show l.length - (j+1)<l.length - j by omega) [(9,some 9)] hI rfl rfl ⟨⟨_,rfl,.pure pu⟩,⟨_,rfl,.pure pu⟩,⟨_,rfl,.sl rfl ar⟩,⟨_,rfl,.pure pu⟩,⟨_,rfl,.pure pu⟩,⟨_,rfl,.pure pu⟩,trivial⟩ ⟨.inr ⟨_,_,rfl,rfl,.pure bO⟩,trivial⟩
  ·obtain rfl : j = l.length := by have := of_decide_eq_false hc20; omega
   rw [List.take_length, ←hτ]at hw
   have hw2:=hw.symm
   refine aa [687,665] ?_
   refine cm rfl (fun hc36=>?_) (fun hc36=>?_)
   ·have h36 : τ (m : Nat) ≠ 0 := by rw [hw2]; simpa using hc36
    have hjs:(jN τ (m+1)).length=(jN τ m).length+1:=by rw [Cv h36];simp
    refine aa [758,145] ?_
    refine bJ rfl (gC 41 rfl Tryz.underlying31 c8 rfl rfl rfl aQ (show _=Ch.cells ⟨m,w⟩from List.append_nil _) rfl rfl rfl ?_)
    refine bJ rfl (dR 42 rfl Tryz.underlying31 c8 rfl (.sl rfl aA) rfl (dH rfl ar) aA aC aq rfl rfl rfl ?_)
    refine aa [686] ?_
    exact cO (m+1) aq aq [(9,some 42)] hI rfl rfl ⟨⟨_,rfl,.pure pu⟩,⟨_,rfl,.pure pu⟩,⟨_,rfl,.sl rfl ar⟩,⟨_,rfl,.pure pu⟩,trivial⟩ ⟨.inr ⟨_,_,rfl,rfl,.of (by rw [Cv h36,hw2];simp [gU]) (.pure bO)⟩,trivial⟩
   ·have h36 : τ (m : Nat) = 0 := by rw [hw2]; simpa using hc36
    have hjs:(jN τ (m+1)).length=(jN τ m).length:=by rw [Cu h36]
    refine aa [676] ?_
    exact cO (m+1) aq aq [(9,some 9)] hI rfl rfl ⟨⟨_,rfl,.pure pu⟩,⟨_,rfl,.pure pu⟩,⟨_,rfl,.sl rfl ar⟩,⟨_,rfl,.pure pu⟩,trivial⟩ ⟨.inr ⟨_,_,rfl,rfl,.of (by rw [Cu h36]) (.pure bO)⟩,trivial⟩
 ·obtain rfl : m = 1024 := by have := of_decide_eq_false hc11; omega
  refine aa [719] ?_
  refine dP 9 (cs':=gU (eL τ)) rfl rfl <| gm 4 rfl rfl bO (dD (by rw [L7];rfl) rfl) ?_
  refine aa [15] ?_
  rw [←hτ];rfl
-- C5B
theorem Ky (x:List UInt8) (hx:x.length=32):bU Tryz.prog 183 [.ag (x.map u8)] (uU (fun i=> .fn (.func 209) [] [.p i 0]) (x.map u8)):=by
 refine enter Tryz.func183 rfl Tryz.ntmps183 aw (Nat.le_of_ble_eq_true rfl) fun w0 X0 hI=>?_
 refine aa [670,662,415,650] ?_
 refine bZ (rs:= [.tmp 2]) rfl (bV rfl bW) ⟨1,rfl,rfl⟩
theorem yF (x:List UInt8) (n:Nat) (hx:x.length=32) (hn:n≤1000):bU Tryz.prog 136 [.ag (x.map u8),.i .i64 (n:Nat)] (cl (.ag ((gi n x).map u8))):=by
 refine rq Tryz.func136 rfl Tryz.ntmps136 aw (Nat.le_of_ble_eq_true rfl) fun w0 X0 hI hS=>?_
 refine aa [713,255,70,654,645,13] ?_
 refine bJ rfl (FA (mk:=fun i=> .fn (.func 209) [] [.p i 0]) wY 7 rfl false rfl (.cons (.pure pu) (.nil)) (Ky x hx) bO (.inl rfl) rfl ?_)
 refine bH <| bF <| cd ?_
 refine yP [2,3,4,7] [(0,_),(1,_),(2,_),(3,_),(4,_),(6,_),(7,_)] hI rfl ⟨rfl,⟨rfl,⟨rfl,⟨rfl,⟨rfl,⟨rfl,⟨rfl,trivial⟩⟩⟩⟩⟩⟩⟩ aL rfl Tryz.func209 rfl Tryz.ntmps209 aw (Nat.le_of_ble_eq_true rfl) fun w1 l1 D1 rc1 hR1=>?_
 refine cd ?_
 refine c5 (ι:=Nat) (fun k=> [(0,yv l1),(1,.p 7 0)]) (fun k=>⟨[(2,some (x.map u8)),(3,some ([.i .i64 ((n - k:Nat):Int)])),(4,some (List.replicate 32 (u8 0))),(7,some (((gi k x).map u8)))]⟩) (fun k=>k≤n) (fun k=>n - k) ?_ ?_
 ·exact c4 (0) (Nat.zero_le _) [(2,some 2),(3,some 3),(4,some 4),(7,some 7)] hR1.sub.ids rfl rfl ⟨⟨_,rfl,.pure trivial⟩,⟨_,rfl,.p rfl⟩,trivial⟩ ⟨.inr ⟨_,_,rfl,rfl,.pure bO⟩,.inr ⟨_,_,rfl,rfl,.pure bO⟩,.inr ⟨_,_,rfl,rfl,.pure bO⟩,.inr ⟨_,_,rfl,rfl,.pure bO⟩,trivial⟩
 rintro k hk
 have hxk:=jr hx k
 refine aa [699,13] ?_
 refine vj [2,3,4,7] [(0,_),(1,_),(3,_),(4,_)] hR1 hR1.sub.ids rfl ⟨rfl,⟨rfl,⟨rfl,⟨rfl,trivial⟩⟩⟩⟩ aL rfl rfl rfl rfl rfl fun w2 tm2 hd2=>?_
 refine aa [1,106,5,26] ?_
 refine vg hd2 fun w3 hd3=>?_
 refine aa [9,3,645,8,646] ?_
 refine cm rfl (fun hc10=>?_) (fun hc10=>?_)
 ·have h10 : k = n := by have := of_decide_eq_true hc10; omega
  subst h10
  refine aa [645,13,5,668,332] ?_
  refine I1 hR1 hd3 rfl fun w4 hR4=>?_
  refine aa [779,792] ?_
  refine IU rfl hR4 hS <| bY <| cG <| b5 ?_
  refine sX (rs:= [.cell 4 23]) rfl rfl rfl hS (dn:= [D1]) rfl rfl aA rfl (da bR rfl rfl (List.take_of_length_le (by simp [hxk])) (by simp [hxk]) bW) rfl
 ·have h10 : k < n := by have := of_decide_eq_false hc10; omega
  refine aa [681,1,8] ?_
  refine s1 (eW (n - k) 1 rfl rfl rfl rfl aq aq) rfl ?_
  refine aa [193,760,174,782,681,9,1,136] ?_
  refine bJ rfl (b7 true rfl (.cons (.pure pu) (.cons (.sl rfl rfl ar (dD ar aJ) (cK.pure bO) bO) (.nil))) (kB [115,116,101,112] (gi k x) aq aA) pu (.inr fu) rfl ?_)
  refine aa [5,760] ?_
  exact cO (k+1) aq aq [(2,some 2),(3,some 3),(4,some 4),(7,some 7)] hR1.sub.ids rfl rfl ⟨⟨_,rfl,.pure trivial⟩,⟨_,rfl,.p rfl⟩,trivial⟩ ⟨.inr ⟨_,_,rfl,rfl,.pure bO⟩,.inr ⟨_,_,rfl,rfl,.of aX (.pure bO)⟩,.inr ⟨_,_,rfl,rfl,.pure bO⟩,.inr ⟨_,_,rfl,rfl,.of (by rw [gi,Ba]) (.pure bO)⟩,trivial⟩
-- C5C
theorem Hw (m:List UInt8) (hm:m.length=32):bU Tryz.prog 133 [.ag (m.map u8)] (cl (.ag ((digits m).map nI))):=by
 refine enter Tryz.func133 rfl Tryz.ntmps133 aw (Nat.le_of_ble_eq_true rfl) fun w0 X0 hI=>?_
 refine aa [670] ?_
 refine bJ rfl (cI 2 rfl xS rfl rfl ?_)
 refine aa [653,659,697] ?_
 refine c5 (ι:=Nat) (fun k=> [(1,.p 1 0),(2,.p 2 0),(3,nI (fq m k)),(6,nI k)]) (fun k=>⟨[(1,some (m.map u8)),(2,some ((dl m k).map nI++List.replicate (19 - k) (nI 0)))]⟩) (fun k=>k≤16) (fun k=>16 - k) ?_ ?_
 ·exact c4 (0) (Nat.zero_le _) [(1,some 1),(2,some 2)] hI rfl rfl ⟨⟨_,rfl,.p rfl⟩,⟨_,rfl,.p rfl⟩,⟨_,rfl,.of (by rw [Bc];rfl) (.pure pu)⟩,⟨_,rfl,.pure pu⟩,trivial⟩ ⟨.inr ⟨_,_,rfl,rfl,.pure bO⟩,.inr ⟨_,_,rfl,rfl,.of (by rw [Di];rfl) (.pure bO)⟩,trivial⟩
 rintro k hk
 have hsk:=qw m k
 have hdk:=vF m k
 refine aa [651] ?_
 refine cm rfl (fun hc7=>?_) (fun hc7=>?_)
 ·have h7 : k < 16 := by have := of_decide_eq_true hc7; omega
  refine aa [721,661] ?_
  refine s1 (iR k 4 rfl rfl rfl rfl az aq) rfl <| s1 (dC (k / 4) Tryz.underlying23 cr rfl rfl rfl aq rfl) rfl <| s1 (bM cr rfl rfl (z8 (k / 4) aq)) rfl <| s1 (bE rfl) rfl <| s1 (iS k 4 rfl rfl rfl rfl az) rfl <| s1 (iK 2 (k % 4) rfl rfl rfl rfl aq) rfl <| s1 (eW 6 (2*(k % 4)) rfl rfl rfl rfl aq aq) rfl <| s1 (uA _ (6 - 2*(k % 4)) rfl rfl rfl aq) rfl <| s1 (ep Tryz.underlying5 Tryz.underlying3 rfl) rfl <| s1 ((mB rfl rfl (.inl rfl)).v (Kj m k)) rfl ?_
  refine aa [416] ?_
  refine bJ rfl (dI bL rfl rfl rfl rfl aE (Ps m k h7) ?_)
  refine aa [656,658,416] ?_
  refine s1 (bM bL rfl rfl (Lp m k rfl)) rfl <| s1 (eW 3 (ke m k) rfl rfl rfl rfl aq aq) rfl <| s1 (cE (fq m k) (3 - ke m k) rfl rfl rfl rfl aq) rfl ?_
  refine aa [704] ?_
  exact cO (k+1) aq aq [(1,some 1),(2,some 2)] hI rfl rfl ⟨⟨_,rfl,.p rfl⟩,⟨_,rfl,.p rfl⟩,⟨_,rfl,.of (by rw [Bd]) (.pure pu)⟩,⟨_,rfl,.pure pu⟩,trivial⟩ ⟨.inr ⟨_,_,rfl,rfl,.pure bO⟩,.inr ⟨_,_,rfl,rfl,.pure bO⟩,trivial⟩
 ·have h7 : k = 16 := by have := of_decide_eq_false hc7; omega
  subst h7
  refine aa [684,645] ?_
  refine s1 ((bE rfl).v (v':= .i .i64 18) rfl) rfl <| bH <| bF <| cd ?_
  refine c5 (ι:=Nat) (fun j=> [(1,.p 1 0),(2,.p 2 0),(3,nI (fq m 16 / 4 ^ j)),(5,nI (18 - j))]) (fun j=>⟨[(1,some (m.map u8)),(2,some (pf m j))]⟩) (fun j=>j≤3) (fun j=>3 - j) ?_ ?_
  ·exact c4 (0) (Nat.zero_le _) [(1,some 1),(2,some 2)] hI rfl rfl ⟨⟨_,rfl,.p rfl⟩,⟨_,rfl,.p rfl⟩,⟨_,rfl,.of aA (.pure pu)⟩,⟨_,rfl,.pure pu⟩,trivial⟩ ⟨.inr ⟨_,_,rfl,rfl,.pure bO⟩,.inr ⟨_,_,rfl,rfl,.of (Qb m) (.pure bO)⟩,trivial⟩
  rintro j hj
  have hs16:=qw m 16
  have hsj:fq m 16 / 4 ^ j≤48:=Nat.le_trans (Nat.div_le_self _ _) aq
  refine aa [695] ?_
  refine cm rfl (fun hc30=>?_) (fun hc30=>?_)
  ·have h30 : j < 3 := by have := of_decide_eq_true hc30; omega
   refine aa [655,661] ?_
   refine s1 (iS (fq m 16 / 4 ^ j) 4 rfl rfl rfl rfl az) rfl <| s1 (dC (18 - j) Tryz.underlying170 bL rfl rfl rfl aq rfl) rfl <| bJ rfl (dI bL rfl rfl rfl rfl (by simp [Am];omega) rfl ?_)
   refine bH <| bF <| bI <| s1 (bE rfl) rfl <| s1 (iR (fq m 16 / 4 ^ j) 4 rfl rfl rfl rfl az aq) rfl ?_
   refine aa [682,793] ?_
   refine s1 (eW (18 - j) 1 rfl rfl rfl rfl aq aq) rfl ?_
   refine aa [682] ?_
   exact cO (j+1) aq aq [(1,some 1),(2,some 2)] hI rfl rfl ⟨⟨_,rfl,.p rfl⟩,⟨_,rfl,.p rfl⟩,⟨_,rfl,.of (by rw [Nat.div_div_eq_div_mul, ←Nat.pow_succ]) (.pure pu)⟩,⟨_,rfl,.of (congrArg nI aq) (.pure pu)⟩,trivial⟩ ⟨.inr ⟨_,_,rfl,rfl,.pure bO⟩,.inr ⟨_,_,rfl,rfl,.of (PA m j h30) (.pure bO)⟩,trivial⟩
  ·have h30 : j = 3 := by have := of_decide_eq_false hc30; omega
   subst h30
   refine dP 2 rfl (Qc m) <| cY <| cq <| cq <| cZ <| bF <| bG <| bI <| s1 (cu xS rfl rfl ar) rfl <| bJ rfl (cD xS rfl rfl rfl ar ar ?_)
   refine bH <| bF <| bY ?_
   refine bZ (rs:= [.cell 2 170]) rfl (da xS rfl rfl (List.take_of_length_le aA) aA bW) rfl
theorem EH (parts:List (List UInt8)) (hk:parts.length≤1048576) (ht:parts.flatten.length≤140737488300000):bU Tryz.prog 184 [.fz parts.length (parts.map eU)] (fk 1 parts.flatten.length (parts.flatten.map u8)):=by
 refine enter Tryz.func184 rfl Tryz.ntmps184 aw (Nat.le_of_ble_eq_true rfl) fun w0 X0 hI=>?_
 refine aa [651,648] ?_
 refine s1 (cJ Tryz.underlying182 rfl rfl rfl) rfl ?_
 refine aa [667] ?_
 refine c5 (ι:=Nat) (fun i=> [(2,.sl 2 1 0 (parts.take i).flatten.length),(5,.fz parts.length (parts.map eU)),(6,nI parts.length),(7,nI i)]) (fun i=>⟨[(2,some ((parts.take i).flatten.map u8))]⟩) (fun i=>i≤parts.length) (fun i=>parts.length - i) ?_ ?_
 ·exact c4 (0) (Nat.zero_le _) [(2,none)] hI rfl rfl ⟨⟨_,rfl,.nl rfl⟩,⟨_,rfl,.pure pu⟩,⟨_,rfl,.pure pu⟩,⟨_,rfl,.pure pu⟩,trivial⟩ ⟨.inl ⟨rfl,rfl⟩,trivial⟩
 rintro i hi
 refine aa [651] ?_
 refine cm rfl (fun hc8=>?_) (fun hc8=>?_)
 ·have hi2 : i < parts.length := by have := of_decide_eq_true hc8; omega
  obtain⟨p,hp⟩:∃p,parts[i]? =some p:=⟨_,List.getElem?_eq_getElem hi2⟩
  have hpl:=Mg hp
  refine aa [672,356] ?_
  refine s1 (bM eM rfl rfl (Ei hp)) rfl ?_
  refine aa [646,658] ?_
  refine bJ rfl (dR 13 rfl Tryz.underlying68 cr rfl (.sl rfl aV) rfl rfl aA aC aq rfl rfl rfl ?_)
  refine aa [704] ?_
  exact cO (i+1) aq aq [(2,some 13)] hI rfl rfl ⟨⟨_,rfl,.sl rfl ar⟩,⟨_,rfl,.pure pu⟩,⟨_,rfl,.pure pu⟩,⟨_,rfl,.pure pu⟩,trivial⟩ ⟨.inr ⟨_,_,rfl,rfl,.of (by rw [←List.map_append,xR hp]) (.pure bO)⟩,trivial⟩
 ·have hi2 : i = parts.length := by have := of_decide_eq_false hc8; omega
  subst hi2
  refine aa [719] ?_
  refine bZ (rs:= [.tmp 2]) rfl (bV rfl bW) ⟨2,?_,?_⟩
  ·rw [List.take_length];rfl
  ·rw [List.take_length];rfl
theorem P8 (x:List UInt8) (i:Nat) (hx:x.length=32):bU Tryz.prog 50 [.s [99,104,97,105,110],.fz 33 (x.map u8++ [u8 (UInt8.ofNat i)])] (cl (.ag ((iJ x i).map u8))):=by
  rw [zT];simpa [hx]using kB [99,104,97,105,110] (x++ [UInt8.ofNat i]) aH aA
theorem Cg (x:List UInt8) (i:Nat) (hx:x.length=32):bU Tryz.prog 137 [.ag (x.map u8),nI i] (cl (.ag ((iJ x i).map u8))):=by
 refine enter Tryz.func137 rfl Tryz.ntmps137 aw (Nat.le_of_ble_eq_true rfl) fun w0 X0 hI=>?_
 refine aa [745,653,136,0,417] ?_
 refine bJ rfl (eF 8 rfl Tryz.underlying68 cr rfl rfl rfl rfl rfl ?_)
 refine bJ rfl (eF 9 rfl Tryz.underlying182 eM rfl rfl rfl rfl rfl ?_)
 refine bJ rfl (kx 10 rfl true rfl (.cons (.sl rfl rfl rfl rfl (.cons (.sl rfl rfl ar (dD aH rfl) (cK.pure bO) bO) (.cons (.sl rfl rfl rfl (dD rfl rfl) (cK.pure bO) bO) .nil)) bO) .nil) (by simpa [eU,hx]using EH [x, [UInt8.ofNat i]] aA aH) bO (.inr iX) rfl ?_)
 refine bJ rfl (b7 true rfl (.cons (.pure pu) (.cons (.sl rfl rfl ar (dD ar aJ) (cK.pure bO) bO) (.nil))) (P8 x i hx) pu (.inr fu) rfl ?_)
 refine aa [712] ?_
 refine bZ (rs:= [.cell 4 23]) rfl (da bR rfl rfl (List.take_of_length_le aA) aA bW) rfl
-- C5D
theorem P9 (L:List (List UInt8)) (hD:cg L) (hl:L.length=19):bU Tryz.prog 50 [.s [112,117,98,108,105,99],.fz L.flatten.length (L.flatten.map u8)] (cl (.ag ((ml L).map u8))):=by
  rw [Ah];exact kB [112,117,98,108,105,99] L.flatten (by rw [hD.len,hl];omega) aA
theorem LD (L:List (List UInt8)) (hD:cg L) (hl:L.length=19):bU Tryz.prog 184 [.fz 19 (L.map eU)] (fk 1 L.flatten.length (L.flatten.map u8)):=by
  have:=EH L aq (by rw [hD.len,hl];omega)
  rwa [hl]at this
theorem Gh (L:List (List UInt8)) (hD:cg L) (hl:L.length=19):bU Tryz.prog 180 [.ag (L.flatten.map u8)] (cl (.ag ((ml L).map u8))):=by
 refine enter Tryz.func180 rfl Tryz.ntmps180 aw (Nat.le_of_ble_eq_true rfl) fun w0 X0 hI=>?_
 refine aa [670,28,653] ?_
 refine bJ rfl (rS 5 rfl 19 19 Tryz.underlying182 eM rfl rfl rfl rfl rfl av av av rfl ?_)
 refine aa [652,3] ?_
 have hfl:(L.flatten.map u8).length=608:=by rw [List.length_map,hD.len,hl]
 refine aa [761] ?_
 refine c5 (ι:=Nat) (fun i=> [(1,.p 1 0),(2,.p 2 0),(3,.sl 5 1 0 19),(6,nI i)]) (fun i=>⟨[(1,some (L.flatten.map u8)),(2,some (List.replicate 32 (u8 0))),(5,some (ob i))]⟩) (fun i=>i≤19) (fun i=>19 - i) ?_ ?_
 ·exact c4 (0) (Nat.zero_le _) [(1,some 1),(2,some 2),(5,some 5)] hI rfl rfl ⟨⟨_,rfl,.p rfl⟩,⟨_,rfl,.p rfl⟩,⟨_,rfl,.sl rfl ar⟩,⟨_,rfl,.pure pu⟩,trivial⟩ ⟨.inr ⟨_,_,rfl,rfl,.pure bO⟩,.inr ⟨_,_,rfl,rfl,.pure bO⟩,.inr ⟨_,_,rfl,rfl,.of aX (.pure (by simp [ob];exact bO))⟩,trivial⟩
 rintro i hi
 refine aa [651] ?_
 refine cm rfl (fun hc7=>?_) (fun hc7=>?_)
 ·have h7 : i < 19 := by have := of_decide_eq_true hc7; omega
  refine aa [721,758,301] ?_
  refine s1 (qF 32 Tryz.underlying23 cr rfl rfl aq aI bn bn aq aq rfl rfl) rfl <| s1 (mC i Tryz.underlying182 eM rfl rfl rfl rfl aq rfl) rfl <| bJ rfl (dI eM rfl rfl rfl rfl aE rfl ?_)
  refine aa [685] ?_
  exact cO (i+1) aq aq [(1,some 1),(2,some 2),(5,some 5)] hI rfl rfl ⟨⟨_,rfl,.p rfl⟩,⟨_,rfl,.p rfl⟩,⟨_,rfl,.sl rfl ar⟩,⟨_,rfl,.pure pu⟩,trivial⟩ ⟨.inr ⟨_,_,rfl,rfl,.pure bO⟩,.inr ⟨_,_,rfl,rfl,.pure bO⟩,.inr ⟨_,_,rfl,rfl,.of (Py i h7) (Oi rfl _)⟩,trivial⟩
 ·have h7 : i = 19 := by have := of_decide_eq_false hc7; omega
  subst h7
  refine aa [722] ?_
  refine bJ rfl (kx 17 rfl true rfl (.cons (.sl rfl rfl rfl (HM aA) (QB hD hl rfl) bO) .nil) (LD L hD hl) bO (.inr iX) rfl ?_)
  refine bJ rfl (b7 true rfl (.cons (.pure pu) (.cons (.sl rfl rfl rfl (dD aV rfl) (cK.pure bO) bO) .nil)) (P9 L hD hl) pu (.inr fu) rfl ?_)
  refine aa [712] ?_
  refine bZ (rs:= [.cell 2 23]) rfl (da bR rfl rfl (List.take_of_length_le aA) aA bW) rfl
theorem NM (x:List UInt8) (hx:x.length=32):bU Tryz.prog 145 [.ag (x.map u8)] (cl (.ag ((mZ x).map u8))):=by
 refine enter Tryz.func145 rfl Tryz.ntmps145 aw (Nat.le_of_ble_eq_true rfl) fun w0 X0 hI=>?_
 refine aa [670,28,653] ?_
 refine bJ rfl (cI 3 rfl xT aw rfl ?_)
 refine aa [720] ?_
 refine c5 (ι:=Nat) (fun i=> [(1,.p 1 0),(2,.p 2 0),(3,.p 3 0),(5,nI i)]) (fun i=>⟨[(1,some (x.map u8)),(2,some (List.replicate 32 (u8 0))),(3,some (lq 19 (jS x i)))]⟩) (fun i=>i≤19) (fun i=>19 - i) ?_ ?_
 ·exact c4 (0) (Nat.zero_le _) [(1,some 1),(2,some 2),(3,some 3)] hI rfl rfl ⟨⟨_,rfl,.p rfl⟩,⟨_,rfl,.p rfl⟩,⟨_,rfl,.p rfl⟩,⟨_,rfl,.pure pu⟩,trivial⟩ ⟨.inr ⟨_,_,rfl,rfl,.pure bO⟩,.inr ⟨_,_,rfl,rfl,.pure bO⟩,.inr ⟨_,_,rfl,rfl,.of (by rw [xh,List.map_replicate];exact BZ 19) (.pure bO)⟩,trivial⟩
 rintro i hi
 have hDi:=pw x i
 refine aa [651] ?_
 refine cm rfl (fun hc6=>?_) (fun hc6=>?_)
 ·have h6 : i < 19 := by have := of_decide_eq_true hc6; omega
  refine aa [721,649,13,0,418] ?_
  refine bJ rfl (b7 false rfl (.cons (.pure pu) (.cons (.pure pu) (.nil))) (yF (iJ x i) 3 aA aq) pu (.inl rfl) rfl ?_)
  refine aa [301] ?_
  refine bJ rfl (ky bR rfl rfl rfl rfl rfl (E3 aA) (by rw [EW hDi (by rw [nX];omega)];omega) (Gj hDi (by rw [nX];omega) (by rw [nX])) ?_)
  refine aa [685] ?_
  exact cO (i+1) aq aq [(1,some 1),(2,some 2),(3,some 3)] hI rfl rfl ⟨⟨_,rfl,.p rfl⟩,⟨_,rfl,.p rfl⟩,⟨_,rfl,.p rfl⟩,⟨_,rfl,.pure pu⟩,trivial⟩ ⟨.inr ⟨_,_,rfl,rfl,.pure bO⟩,.inr ⟨_,_,rfl,rfl,.pure bO⟩,.inr ⟨_,_,rfl,rfl,.of (by rw [xj]) (.pure bO)⟩,trivial⟩
 ·have h6 : i = 19 := by have := of_decide_eq_false hc6; omega
  subst h6
  refine dP 3 rfl (B0 (nX x 19)) <| cY <| cq <| cq <| cZ <| bF <| bG <| bI <| s1 (cu xT rfl rfl (by rw [List.length_map,(pw x 19).len,nX])) rfl <| bJ rfl (b7 false rfl (.cons (.pure pu) (.nil)) (Gh (jS x 19) (pw x 19) (nX x 19)) pu (.inl rfl) rfl ?_)
  refine aa [712] ?_
  refine bZ (rs:= [.cell 2 23]) rfl (da bR rfl rfl (List.take_of_length_le aA) aA bW) rfl
theorem PN (x m:List UInt8) (hx:x.length=32) (hm:m.length=32):bU Tryz.prog 88 [.ag (x.map u8),.ag (m.map u8)] (cl (cM (jX x m))):=by
 refine enter Tryz.func88 rfl Tryz.ntmps88 aw (Nat.le_of_ble_eq_true rfl) fun w0 X0 hI=>?_
 refine aa [713,68,652,645,13,419,667] ?_
 refine c5 (ι:=Nat) (fun i=> [(2,.p 2 0),(4,.sl 4 32 0 i),(8,.ag ((digits m).map nI)),(9,nI i)]) (fun i=>⟨[(2,some (x.map u8)),(4,some ((jY x m i).flatten.map u8))]⟩) (fun i=>i≤19) (fun i=>19 - i) ?_ ?_
 ·exact c4 (0) (Nat.zero_le _) [(2,some 2),(4,none)] hI rfl rfl ⟨⟨_,rfl,.p rfl⟩,⟨_,rfl,.nl rfl⟩,⟨_,rfl,.pure pu⟩,⟨_,rfl,.pure pu⟩,trivial⟩ ⟨.inr ⟨_,_,rfl,rfl,.pure bO⟩,.inl ⟨rfl,rfl⟩,trivial⟩
 rintro i hi
 have hDi:=qK x m i
 have hdi:=tq m i
 refine aa [651] ?_
 refine cm rfl (fun hc10=>?_) (fun hc10=>?_)
 ·have h10 : i < 19 := by have := of_decide_eq_true hc10; omega
  refine aa [655,648] ?_
  refine s1 (H5 i Tryz.underlying170 bL rfl rfl rfl h10 (Ab m i h10)) rfl ?_
  refine aa [0,646,649,13,0,418,0] ?_
  refine bJ rfl (b7 false rfl (.cons (.pure pu) (.cons (.pure pu) (.nil))) (yF (iJ x i) (dg m i) aA aq) pu (.inl rfl) rfl ?_)
  refine bJ rfl (gC 19 rfl Tryz.underlying41 bR rfl rfl rfl (by simp [cw,jr]) (List.append_nil ((gi (dg m i) (iJ x i)).map u8)) rfl rfl rfl ?_)
  refine bJ rfl (dR 20 rfl Tryz.underlying41 bR rfl (.sl rfl (by rw [List.length_map,hDi.len,rP])) rfl (dH rfl (by rw [List.length_map,jr aA])) (by simp [jr]) aC aq rfl rfl rfl ?_)
  refine aa [704] ?_
  exact cO (i+1) aq aq [(2,some 2),(4,some 20)] hI rfl rfl ⟨⟨_,rfl,.p rfl⟩,⟨_,rfl,.sl rfl ar⟩,⟨_,rfl,.pure pu⟩,⟨_,rfl,.pure pu⟩,trivial⟩ ⟨.inr ⟨_,_,rfl,rfl,.pure bO⟩,.inr ⟨_,_,rfl,rfl,.of (Hl x m i) (.pure bO)⟩,trivial⟩
 ·have h10 : i = 19 := by have := of_decide_eq_false hc10; omega
  subst h10
  refine aa [719,420,15] ?_
  show A.fz _ _=cM (jY x m 19)
  rw [cM,rP]
theorem Oa (m:List UInt8) (S:List (List UInt8)) (hm:m.length=32) (hS:cg S):bU Tryz.prog 130 [.ag (m.map u8),cM S] (cl (.tu [.ag ((gJ m S).map u8),nI (jV S)])):=by
 refine enter Tryz.func130 rfl Tryz.ntmps130 aw (Nat.le_of_ble_eq_true rfl) fun w0 X0 hI=>?_
 refine aa [745,659,648,770] ?_
 refine cm rfl (fun hc11=>?_) (fun hc11=>?_)
 ·have h11 : S.length ≠ 19 := by have := bne_iff_ne.1 hc11; omega
  refine aa [645,13,5] ?_
  refine s1 ((bE rfl).v (v':= .i .i64 50) rfl) rfl ?_
  refine aa [668,77] ?_
  rw [(xx h11).1,(xx (m:=m) h11).2]
  rfl
 ·have h11 : S.length = 19 := by have := bne_eq_false_iff_eq.1 hc11; omega
  refine b9 <| bF <| bG <| bI <| bJ rfl (cI 6 rfl xT aw rfl ?_)
  refine aa [654,645,13,419,667] ?_
  refine c5 (ι:=Nat) (fun i=> [(1,cM S),(4,.p 4 0),(6,.p 6 0),(14,.ag ((digits m).map nI)),(15,nI i)]) (fun i=>⟨[(4,some (List.replicate 32 (u8 0))),(6,some (lq 19 (jW m S i)))]⟩) (fun i=>i≤19) (fun i=>19 - i) ?_ ?_
  ·exact c4 (0) (Nat.zero_le _) [(4,some 4),(6,some 6)] hI rfl rfl ⟨⟨_,rfl,.pure pu⟩,⟨_,rfl,.p rfl⟩,⟨_,rfl,.p rfl⟩,⟨_,rfl,.pure pu⟩,⟨_,rfl,.pure pu⟩,trivial⟩ ⟨.inr ⟨_,_,rfl,rfl,.pure bO⟩,.inr ⟨_,_,rfl,rfl,.of (by rw [xv,List.map_replicate];exact BZ 19) (.pure bO)⟩,trivial⟩
  rintro i hi
  have hDi:=yf (m:=m) hS i aq
  have hdi:=tq m i
  refine aa [651] ?_
  refine cm rfl (fun hc16=>?_) (fun hc16=>?_)
  ·have h16 : i < 19 := by have := of_decide_eq_true hc16; omega
   obtain⟨q,hq⟩:∃q,S[i]? =some q:=⟨_,List.getElem?_eq_getElem aq⟩
   have hq32:=hS q (List.mem_of_getElem? hq)
   have hq2:S.getD i []=q:=by simp [hq]
   refine aa [655,648] ?_
   refine s1 (H5 i Tryz.underlying170 bL rfl rfl rfl h16 (Ab m i h16)) rfl ?_
   refine aa [0,646,758,421] ?_
   refine s1 (dw bR rfl rfl (Aa hS hq) bh) rfl <| s1 (bE rfl) rfl <| s1 (eW 3 (dg m i) rfl rfl rfl rfl aq aq) rfl <| bJ rfl (b7 false rfl (.cons (.pure pu) (.cons (.pure pu) (.nil))) (yF q (3 - dg m i) hq32 aq) pu (.inl rfl) rfl ?_)
   refine aa [301] ?_
   refine bJ rfl (ky bR rfl rfl rfl rfl rfl (E3 hq32) (by rw [EW hDi (by rw [nY];omega)];omega) (Gj hDi (by rw [nY];omega) (by rw [nY])) ?_)
   refine aa [685] ?_
   exact cO (i+1) aq aq [(4,some 4),(6,some 6)] hI rfl rfl ⟨⟨_,rfl,.pure pu⟩,⟨_,rfl,.p rfl⟩,⟨_,rfl,.p rfl⟩,⟨_,rfl,.pure pu⟩,⟨_,rfl,.pure pu⟩,trivial⟩ ⟨.inr ⟨_,_,rfl,rfl,.pure bO⟩,.inr ⟨_,_,rfl,rfl,.of (by rw [xw,hq2]) (.pure bO)⟩,trivial⟩
  ·have h16 : i = 19 := by have := of_decide_eq_false hc16; omega
   subst h16
   refine dP 6 rfl (B0 (nY m S 19)) <| cY <| cq <| cq <| cZ <| bF <| bG <| bI <| s1 (cu xT rfl rfl (by rw [List.length_map,hDi.len,nY])) rfl <| bJ rfl (b7 false rfl (.cons (.pure pu) (.nil)) (Gh (jW m S 19) hDi (nY m S 19)) pu (.inl rfl) rfl ?_)
   refine aa [5,657,77] ?_
   rw [(ur h11).1,(ur (m:=m) h11).2]
   rfl
-- D2H
theorem L2 (X:BitVec 64):bU Tryz.prog 187 [cN X] (cl (.i .i64 (fB X.toNat:Nat))):=by
 refine enter Tryz.func187 rfl Tryz.ntmps187 aw (Nat.le_of_ble_eq_true rfl) fun w0 X0 hI=>?_
 refine aa [645,659,665] ?_
 refine cm rfl (fun hc4=>?_) (fun hc4=>?_)
 ·have e4 := pX X 32 (by have := of_decide_eq_true hc4; omega)
  have y4:=qu X 32 32 X.isLt
  refine aa [648] ?_
  refine s1 (mz _ 32 rfl rfl rfl az) rfl ?_
  refine aa [646,1,194,654,665] ?_
  refine cm rfl (fun hc8=>?_) (fun hc8=>?_)
  ·have e8 := pX (X >>> 32) 16 (by have := of_decide_eq_true hc8; omega)
   have y8:=qu (X>>>32) 16 16 y4
   refine aa [648] ?_
   refine s1 (mz _ 16 rfl rfl rfl az) rfl ?_
   refine aa [646,1,194] ?_
   refine s1 (cE 32 16 rfl rfl rfl rfl aq) rfl ?_
   refine aa [652,665] ?_
   refine cm rfl (fun hc14=>?_) (fun hc14=>?_)
   ·have e14 := pX ((X >>> 32) >>> 16) 8 (by have := of_decide_eq_true hc14; omega)
    have y14:=qu ((X>>>32)>>>16) 8 8 y8
    refine aa [648,195,646,649] ?_
    refine s1 (cE _ 8 rfl rfl rfl rfl aq) rfl ?_
    refine aa [660,44] ?_
    refine s1 (pj (((X>>>32)>>>16)>>>8).toNat (UInt8.ofNat (fB (((X>>>32)>>>16)>>>8).toNat)) Tryz.underlying9 rfl aw rfl (pd y14) (pb _ y14)) rfl <| s1 ((ep Tryz.underlying5 Tryz.underlying3 rfl).v (v':= .i .i64 (fB (((X>>>32)>>>16)>>>8).toNat:Nat)) (pc y14)) rfl ?_
    refine aa [111,698] ?_
    exact congrArg (fun k:Nat=>A.i .i64 (k:Int)) aq
   ·have e14 : ((X >>> 32) >>> 16).toNat < 2 ^ 8 := by have := of_decide_eq_false hc14; omega
    have y14:=e14
    refine aa [771,44] ?_
    refine s1 (pj ((X>>>32)>>>16).toNat (UInt8.ofNat (fB ((X>>>32)>>>16).toNat)) Tryz.underlying9 rfl aw rfl (pd y14) (pb _ y14)) rfl <| s1 ((ep Tryz.underlying5 Tryz.underlying3 rfl).v (v':= .i .i64 (fB ((X>>>32)>>>16).toNat:Nat)) (pc y14)) rfl ?_
    refine aa [111,698] ?_
    exact congrArg (fun k:Nat=>A.i .i64 (k:Int)) aq
  ·have e8 : (X >>> 32).toNat < 2 ^ 16 := by have := of_decide_eq_false hc8; omega
   have y8:=e8
   refine aa [675,665] ?_
   refine cm rfl (fun hc14=>?_) (fun hc14=>?_)
   ·have e14 := pX (X >>> 32) 8 (by have := of_decide_eq_true hc14; omega)
    have y14:=qu (X>>>32) 8 8 y8
    refine aa [648,195,646,1,194] ?_
    refine s1 (cE 32 8 rfl rfl rfl rfl aq) rfl ?_
    refine aa [660,44] ?_
    refine s1 (pj ((X>>>32)>>>8).toNat (UInt8.ofNat (fB ((X>>>32)>>>8).toNat)) Tryz.underlying9 rfl aw rfl (pd y14) (pb _ y14)) rfl <| s1 ((ep Tryz.underlying5 Tryz.underlying3 rfl).v (v':= .i .i64 (fB ((X>>>32)>>>8).toNat:Nat)) (pc y14)) rfl ?_
    refine aa [111,698] ?_
    exact congrArg (fun k:Nat=>A.i .i64 (k:Int)) aq
   ·have e14 : (X >>> 32).toNat < 2 ^ 8 := by have := of_decide_eq_false hc14; omega
    have y14:=e14
    refine aa [669,194,0,44] ?_
    refine s1 (pj (X>>>32).toNat (UInt8.ofNat (fB (X>>>32).toNat)) Tryz.underlying9 rfl aw rfl (pd y14) (pb _ y14)) rfl <| s1 ((ep Tryz.underlying5 Tryz.underlying3 rfl).v (v':= .i .i64 (fB (X>>>32).toNat:Nat)) (pc y14)) rfl <| s1 (cE 32 _ rfl rfl rfl rfl (by have:=nW y14;omega)) rfl ?_
    refine aa [698] ?_
    exact congrArg (fun k:Nat=>A.i .i64 (k:Int)) aq
 ·have e4 : X.toNat < 2 ^ 32 := by have := of_decide_eq_false hc4; omega
  have y4:=e4
  refine aa [675,665] ?_
  refine cm rfl (fun hc8=>?_) (fun hc8=>?_)
  ·have e8 := pX X 16 (by have := of_decide_eq_true hc8; omega)
   have y8:=qu X 16 16 y4
   refine aa [648] ?_
   refine s1 (mz _ 16 rfl rfl rfl az) rfl ?_
   refine aa [646,1,65] ?_
   refine s1 (cE 0 16 rfl rfl rfl rfl aq) rfl ?_
   refine aa [652,665] ?_
   refine cm rfl (fun hc14=>?_) (fun hc14=>?_)
   ·have e14 := pX (X >>> 16) 8 (by have := of_decide_eq_true hc14; omega)
    have y14:=qu (X>>>16) 8 8 y8
    refine aa [648,195,646,649] ?_
    refine s1 (cE _ 8 rfl rfl rfl rfl aq) rfl ?_
    refine aa [660,44] ?_
    refine s1 (pj ((X>>>16)>>>8).toNat (UInt8.ofNat (fB ((X>>>16)>>>8).toNat)) Tryz.underlying9 rfl aw rfl (pd y14) (pb _ y14)) rfl <| s1 ((ep Tryz.underlying5 Tryz.underlying3 rfl).v (v':= .i .i64 (fB ((X>>>16)>>>8).toNat:Nat)) (pc y14)) rfl ?_
    refine aa [111,698] ?_
    exact congrArg (fun k:Nat=>A.i .i64 (k:Int)) aq
   ·have e14 : (X >>> 16).toNat < 2 ^ 8 := by have := of_decide_eq_false hc14; omega
    have y14:=e14
    refine aa [771,44] ?_
    refine s1 (pj (X>>>16).toNat (UInt8.ofNat (fB (X>>>16).toNat)) Tryz.underlying9 rfl aw rfl (pd y14) (pb _ y14)) rfl <| s1 ((ep Tryz.underlying5 Tryz.underlying3 rfl).v (v':= .i .i64 (fB (X>>>16).toNat:Nat)) (pc y14)) rfl ?_
    refine aa [111,698] ?_
    exact congrArg (fun k:Nat=>A.i .i64 (k:Int)) aq
  ·have e8 : X.toNat < 2 ^ 16 := by have := of_decide_eq_false hc8; omega
   have y8:=e8
   refine aa [675,665] ?_
   refine cm rfl (fun hc14=>?_) (fun hc14=>?_)
   ·have e14 := pX X 8 (by have := of_decide_eq_true hc14; omega)
    have y14:=qu X 8 8 y8
    refine aa [648,195,646,1,65] ?_
    refine s1 (cE 0 8 rfl rfl rfl rfl aq) rfl ?_
    refine aa [660,44] ?_
    refine s1 (pj (X>>>8).toNat (UInt8.ofNat (fB (X>>>8).toNat)) Tryz.underlying9 rfl aw rfl (pd y14) (pb _ y14)) rfl <| s1 ((ep Tryz.underlying5 Tryz.underlying3 rfl).v (v':= .i .i64 (fB (X>>>8).toNat:Nat)) (pc y14)) rfl ?_
    refine aa [111,698] ?_
    exact congrArg (fun k:Nat=>A.i .i64 (k:Int)) aq
   ·have e14 : X.toNat < 2 ^ 8 := by have := of_decide_eq_false hc14; omega
    have y14:=e14
    refine aa [669,65,0,44] ?_
    refine s1 (pj X.toNat (UInt8.ofNat (fB X.toNat)) Tryz.underlying9 rfl aw rfl (pd y14) (pb _ y14)) rfl <| s1 ((ep Tryz.underlying5 Tryz.underlying3 rfl).v (v':= .i .i64 (fB X.toNat:Nat)) (pc y14)) rfl <| s1 (cE 0 _ rfl rfl rfl rfl (by have:=nW y14;omega)) rfl ?_
    refine aa [698] ?_
    exact congrArg (fun k:Nat=>A.i .i64 (k:Int)) aq
theorem Mh (X:BitVec 64):bU Tryz.prog 146 [cN X] (cl (.i .i64 (fB X.toNat:Nat))):=by
 refine enter Tryz.func146 rfl Tryz.ntmps146 aw (Nat.le_of_ble_eq_true rfl) fun w0 X0 hI=>?_
 refine aa [645,659,168,711] ?_
 refine bJ rfl (b7 false rfl (.cons (.pure pu) (.nil)) (L2 X) pu (.inl rfl) rfl ?_)
 refine aa [650] ?_
 refine bZ (rs:= [.tmp 2]) rfl (bV rfl (bW)) rfl
theorem Ac (n:Nat) (h:2≤n) (hn:n≤1099511627776):bU Tryz.prog 95 [.i .i64 (n:Nat)] (cl (.i .i64 (cC n:Nat))):=by
 refine enter Tryz.func95 rfl Tryz.ntmps95 aw (Nat.le_of_ble_eq_true rfl) fun w0 X0 hI=>?_
 refine aa [645,749,648] ?_
 refine s1 (eW n 1 rfl rfl rfl rfl aq aq) rfl <| s1 (qb (n - 1) Tryz.underlying3 Tryz.underlying74 rfl rfl) rfl <| bJ rfl (b7 false rfl (.cons (.pure pu) (.nil)) (Mh (cQ (n - 1))) pu (.inl rfl) rfl ?_)
 refine s1 ((eW (fB (cQ (n - 1)).toNat) 1 rfl rfl rfl rfl (by rw [yY (n:=n - 1) aq,ES aq];omega) (by rw [yY (n:=n - 1) aq];have:=L3 (x:=n - 1) aq;omega)).v (v':= .i .i64 ((n - 1).log2:Nat)) (congrArg (fun k:Nat=>A.i .i64 (k:Int)) (by rw [yY (n:=n - 1) aq,ES aq];omega))) rfl <| s1 ((qH rfl rfl aq).v (v':= .i .i64 (cC n:Nat)) (PH h hn)) rfl ?_
 refine aa [650] ?_
 refine bZ (rs:= [.tmp 2]) rfl (bV rfl (bW)) rfl
end Go.Abs.D2
