import PyProof.Rows.All
import Wide.All
import OpenK.AllK
import Wide.FinOn
import PySem.Challenge.RW_ui0505_03
set_option Elab.async false
set_option maxRecDepth 100000
set_option maxHeartbeats 8000000
section
open PySem PyProof.Rows
namespace Mine
def hk (k : Int) : Int := reduceHash (Builtin.Tuple.tupleHashOf [hashInt k])
def setObj (es : Array (Int × Value)) (ep : Nat) (t : SetTable) : Obj := { cls := .type "set", dict := none, data := .set es ep t }
section
variable {prog : Program} {w : World} {A : Around} {E : Value → Shared → Prop} {s : Shared} {S a : Addr} {es : Array (Int × Value)} {ep : Nat} {t : SetTable} {k : Int}
theorem key1 (ha : IsTupleKey (intKind prog w) s.heap [k] a) {Q : Int → Shared → Prop} (hu : A.units < cLine) (h : Q (hk k) { s with toks := s.toks + 2 }) : wpAny (model prog w) A (pyHash (.ref a)) Q E s :=
  wpAny_pyHash_tuple hu ha h
theorem byval (ha : IsTupleKey (intKind prog w) s.heap [k] a) {Q : Bool → Shared → Prop} (h : Q true s) : wpAny (model prog w) A (hashByValue 8 (.ref a)) Q E s := by
  have hT := ha.typeIs
  obtain ⟨o, items, n, ho, _, hd, hi⟩ := ha
  unfold hashByValue
  refine wpAny_bind (wpAny_specialOf hT F.slot_tuple_hash.lookup ?_)
  dsimp only
  refine wpAny_bind (wpAny_seqItems ho hd ?_)
  cases hl : items.toList with
  | nil => rw [hl] at hi; cases hi
  | cons v vs =>
    rw [hl] at hi
    cases hi with
    | cons h1 h2 =>
      cases h2
      obtain ⟨tk, rfl⟩ := Value.isInt_shape h1
      have e : items = #[.int k tk] := by
        apply Array.toList_inj.mp; exact hl
      subst e
      refine wpAny_bind ?_
      show wpAny _ _ (forIn #[Value.int k tk] _ _) _ _ s
      rw [← Array.forIn_toList]
      simp only [List.forIn_cons, List.forIn_nil]
      refine wpAny_bind (wpAny_bind ?_)
      unfold hashByValue
      refine wpAny_pure ?_
      simp only [Bool.not_true, Bool.false_eq_true, if_false]
      first
        | exact wpAny_pure (wpAny_pure (wpAny_pure h))
        | exact wpAny_pure (wpAny_pure h)

theorem add_new {j p : Nat} {t' : SetTable} {Q : Bool → Shared → Prop} (ha : IsTupleKey (intKind prog w) s.heap [k] a) (ho : s.heap.get? S = some (setObj es ep t)) (hf : t.fits es.size = true) (hg : t.gaveWay = false)
    (hp : t.probe (fun i => ((es[i]?).map (·.1)).getD 0) (hk k) (t.probeStart (hk k)) = some (.empty j none)) (hpl : t'.plain = true) (hput : t.put j = (t', p)) (htf : t'.tooFull = false) (hu : A.units < cLine) (hz : (SetTable.insertAt es p (hk k, Value.ref a)).size ≤ sizeLine)
    (h : Q true { s with heap := s.heap.update S (Obj.putSet (SetTable.insertAt es p (hk k, .ref a)) t'), toks := s.toks + 2 }) : wpAny (model prog w) A (setAdd S (.ref a)) Q E s := by
  unfold setAdd
  refine wpAny_holding (wpAny_bind (key1 ha hu ?_))
  unfold setAddHashed
  refine wpAny_holding ?_
  unfold setAddHashedIn
  refine wpAny_bind (wpAny_setState_of (s := { s with toks := s.toks + 2 }) ho rfl hf ?_)
  dsimp only
  have hb : byScan (.ref a) es = false := by simp [byScan, Value.scannable]
  rw [hb]
  simp only [Bool.false_eq_true, if_false]
  refine wpAny_bind ?_
  unfold setSearch setSearchFrom
  refine wpAny_bind (wpAny_setState_of (s := { s with toks := s.toks + 2 }) ho rfl hf ?_)
  dsimp only
  rw [hg]
  simp only [Bool.false_eq_true, if_false]
  split
  case h_2 heq => 
    have e := Eq.trans (Eq.symm hp) (Option.eq_none_iff_forall_ne_some.mpr (fun x hx => heq x hx))
    cases e
  case h_1 met heq =>
    have e : some (SetTable.Met.empty j none) = some met := Eq.trans (Eq.symm hp) heq
    cases e
    dsimp only
    refine wpAny_pure ?_
    dsimp only
    refine wpAny_bind (wpAny_setState_of (s := { s with toks := s.toks + 2 }) ho rfl hf ?_)
    dsimp only
    rw [hput]
    dsimp only
    rw [if_pos hpl]
    refine wpAny_bind (byval (s := { s with toks := s.toks + 2 }) ha ?_)
    simp only [if_true]
    refine wpAny_bind (wpAny_storeSet_of (s := { s with toks := s.toks + 2 }) ho rfl ?_ hz)
    simp only [Bool.not_false, Bool.true_and]
    rw [htf]
    simp only [Bool.false_eq_true, if_false]
    exact wpAny_pure h
theorem find_not {j : Nat} {Q : Bool → Shared → Prop} (ha : IsTupleKey (intKind prog w) s.heap [k] a) (ho : s.heap.get? S = some (setObj es ep t)) (hf : t.fits es.size = true) (hg : t.gaveWay = false)
    (hp : t.probe (fun i => ((es[i]?).map (·.1)).getD 0) (hk k) (t.probeStart (hk k)) = some (.empty j none)) (hu : A.units < cLine)
    (h : Q false { s with toks := s.toks + 2 }) : wpAny (model prog w) A (setContains S (.ref a)) Q E s := by
  unfold setContains
  refine wpAny_holding (wpAny_bind (key1 ha hu ?_))
  unfold setFind setFindIn
  refine wpAny_bind ?_
  refine wpAny_bind (wpAny_setState_of (s := { s with toks := s.toks + 2 }) ho rfl hf ?_)
  dsimp only
  have hb : byScan (.ref a) es = false := by simp [byScan, Value.scannable]
  rw [hb]
  simp only [Bool.false_eq_true, if_false]
  refine wpAny_bind ?_
  unfold setSearch setSearchFrom
  refine wpAny_bind (wpAny_setState_of (s := { s with toks := s.toks + 2 }) ho rfl hf ?_)
  dsimp only
  rw [hg]
  simp only [Bool.false_eq_true, if_false]
  split
  case h_2 heq => 
    have e := Eq.trans (Eq.symm hp) (Option.eq_none_iff_forall_ne_some.mpr (fun x hx => heq x hx))
    cases e
  case h_1 met heq =>
    have e : some (SetTable.Met.empty j none) = some met := Eq.trans (Eq.symm hp) heq
    cases e
    dsimp only
    refine wpAny_pure ?_
    dsimp only
    exact wpAny_pure (wpAny_pure h)
theorem find_yes {j i : Nat} {b : Addr} {nx : SetTable.Probe} {Q : Bool → Shared → Prop} (ha : IsTupleKey (intKind prog w) s.heap [k] a) (hb : IsTupleKey (intKind prog w) s.heap [k] b) (ho : s.heap.get? S = some (setObj es ep t)) (hf : t.fits es.size = true) (hg : t.gaveWay = false)
    (hp : t.probe (fun i => ((es[i]?).map (·.1)).getD 0) (hk k) (t.probeStart (hk k)) = some (.candidate j i nx)) (hi : es[i]? = some (hk k, .ref b)) (hj : t.slot j = .live i) (hu : A.units < cLine)
    (hq : ∀ (P : Bool → Shared → Prop), P false { s with toks := s.toks + 2 } → wpAny (model prog w) A (searchCouldBeSeen (.ref a) ((es.filter (·.1 == hk k)).toList.map (·.2))) P E { s with toks := s.toks + 2 })
    (h : Q true { s with toks := s.toks + 2 }) : wpAny (model prog w) A (setContains S (.ref a)) Q E s := by
  unfold setContains
  refine wpAny_holding (wpAny_bind (key1 ha hu ?_))
  unfold setFind setFindIn
  refine wpAny_bind ?_
  refine wpAny_bind (wpAny_setState_of (s := { s with toks := s.toks + 2 }) ho rfl hf ?_)
  dsimp only
  have hb' : byScan (.ref a) es = false := by simp [byScan, Value.scannable]
  rw [hb']
  simp only [Bool.false_eq_true, if_false]
  refine wpAny_bind ?_
  unfold setSearch setSearchFrom
  refine wpAny_bind (wpAny_setState_of (s := { s with toks := s.toks + 2 }) ho rfl hf ?_)
  dsimp only
  rw [hg]
  simp only [Bool.false_eq_true, if_false]
  split
  case h_2 heq => 
    have e := Eq.trans (Eq.symm hp) (Option.eq_none_iff_forall_ne_some.mpr (fun x hx => heq x hx))
    cases e
  case h_1 met heq =>
    have e : some (SetTable.Met.candidate j i nx) = some met := Eq.trans (Eq.symm hp) heq
    cases e
    dsimp only
    rw [hi]
    dsimp only
    have core : wpAny (model prog w) A (do
        let equal ← holding [Value.ref b] (eqBool (.ref b) (.ref a))
        let __x ← setState S
        if (false && equal) = true then pure (SetFound.there none)
        else
          match __x.2.snd.sameMemory t.moves t.mask with
          | some same =>
            match if same = true then __x.2.snd.slot j else SetTable.Slot.empty with
            | SetTable.Slot.live i' =>
              match __x.fst[i']? with
              | some (fst, y') => do
                let d ← isSame y' (.ref b)
                let still ← pure (if d = true then some i' else none)
                match still with
                  | none => do
                    rule "set.search.anew"
                    setSearchFrom S (Value.ref a) (hk k) false 99999 none
                  | some i' =>
                    if equal = true then pure (SetFound.there (some i'))
                    else setSearchFrom S (Value.ref a) (hk k) false 99999 (some nx)
              | none => do
                let still ← pure none
                match still with
                  | none => do
                    rule "set.search.anew"
                    setSearchFrom S (Value.ref a) (hk k) false 99999 none
                  | some i' =>
                    if equal = true then pure (SetFound.there (some i'))
                    else setSearchFrom S (Value.ref a) (hk k) false 99999 (some nx)
            | x => do
              let still ← pure none
              match still with
                | none => do
                  rule "set.search.anew"
                  setSearchFrom S (Value.ref a) (hk k) false 99999 none
                | some i' =>
                  if equal = true then pure (SetFound.there (some i'))
                  else setSearchFrom S (Value.ref a) (hk k) false 99999 (some nx)
          | x => unsupported "set.changed-during-lookup:is-the-new-block-at-the-old-address") (fun r s' => r = .there (some i) ∧ s' = { s with toks := s.toks + 2 }) E { s with toks := s.toks + 2 } := by
      refine wpAny_bind (wpAny_holding (wpAny_eqBool_tuple (s := { s with toks := s.toks + 2 }) hu hb ha ?_))
      refine wpAny_bind (wpAny_setState_of (s := { s with toks := s.toks + 2 }) ho rfl hf ?_)
      have hsm : t.sameMemory t.moves t.mask = some true := by simp [SetTable.sameMemory]
      dsimp only
      simp only [Bool.false_and, Bool.false_eq_true, if_false]
      rw [hsm]
      dsimp only
      simp only [if_true]
      rw [hj]
      dsimp only
      rw [hi]
      dsimp only
      refine wpAny_bind (wpAny_isSame_ref_self ?_)
      simp only [if_true]
      refine wpAny_bind (wpAny_pure ?_)
      simp only [decide_true, if_true]
      exact wpAny_pure ⟨rfl, rfl⟩
    have fin : ∀ r s', (r = SetFound.there (some i) ∧ s' = { s with toks := s.toks + 2 }) → wpAny (model prog w) A (match r with | .there i => pure i | .free .. => pure none) (fun r s' => wpAny (model prog w) A (pure r.isSome) Q E s') E s' := by
      rintro r s' ⟨rfl, rfl⟩
      exact wpAny_pure (wpAny_pure h)
    by_cases hl : t.led = true
    · rw [hl]
      simp only [Bool.not_true, Bool.false_eq_true, if_false]
      exact wpAny_mono core fin (fun _ _ x => x)
    · have hl' : t.led = false := by simpa using hl
      rw [hl']
      simp only [Bool.not_false, if_true]
      refine wpAny_bind (hq _ ?_)
      simp only [Bool.false_eq_true, if_false]
      exact wpAny_mono core fin (fun _ _ x => x)
end
end Mine
end
section
open PySem PyProof.Rows
namespace Mine
section
variable {prog : Program} {w : World} {A : Around} {E : Value → Shared → Prop} {s : Shared} {S a b : Addr} {es : Array (Int × Value)} {ep : Nat} {t : SetTable} {k : Int}
theorem noclass (ha : IsTupleKey (intKind prog w) s.heap [k] a) {Q : Bool → Shared → Prop} (h : Q false s) : wpAny (model prog w) A (ofAClassStatement 8 (.ref a)) Q E s := by
  have hT := ha.typeIs
  obtain ⟨o, items, n, ho, _, hd, hi⟩ := ha
  unfold ofAClassStatement
  refine wpAny_bind (wpAny_typeOf hT ?_)
  dsimp only
  simp only [beq_self_eq_true, if_true]
  refine wpAny_bind (wpAny_pure ?_)
  simp only [Bool.not_true, Bool.false_eq_true, if_false]
  refine wpAny_bind (wpAny_seqItems ho hd ?_)
  dsimp only
  cases hl : items.toList with
  | nil => rw [hl] at hi; cases hi
  | cons v vs =>
    rw [hl] at hi
    cases hi with
    | cons h1 h2 =>
      cases h2
      obtain ⟨tk, rfl⟩ := Value.isInt_shape h1
      have e : items = #[.int k tk] := by
        apply Array.toList_inj.mp; exact hl
      subst e
      refine wpAny_bind ?_
      rw [← Array.forIn_toList]
      simp only [List.forIn_cons, List.forIn_nil]
      refine wpAny_bind (wpAny_bind ?_)
      unfold ofAClassStatement
      refine wpAny_pure ?_
      simp only [Bool.false_eq_true, if_false]
      first
        | exact wpAny_pure (wpAny_pure (wpAny_pure h))
        | exact wpAny_pure (wpAny_pure h)
theorem unseen (ha : IsTupleKey (intKind prog w) s.heap [k] a) (hb : IsTupleKey (intKind prog w) s.heap [k] b) {Q : Bool → Shared → Prop} (h : Q false s) : wpAny (model prog w) A (searchCouldBeSeen (.ref a) [.ref b]) Q E s := by
  unfold searchCouldBeSeen
  refine wpAny_bind ?_
  simp only [List.forIn_cons, List.forIn_nil]
  refine wpAny_bind ?_
  by_cases hab : (a == b) = true
  · simp only [hab, Bool.true_or, if_true]
    exact wpAny_pure (wpAny_pure (wpAny_pure h))
  · have hf : (a == b) = false := by simpa using hab
    simp only [hf, carriedByValue, Bool.false_and, Bool.or_false, Bool.false_eq_true, if_false]
    refine wpAny_bind (wpAny_eqIsQuiet_tuple ha ?_)
    simp only [Bool.not_true, Bool.false_eq_true, if_false]
    refine wpAny_bind (wpAny_eqIsQuiet_tuple hb ?_)
    simp only [Bool.not_true, Bool.false_eq_true, if_false]
    refine wpAny_bind (noclass ha ?_)
    simp only [Bool.false_eq_true, if_false]
    refine wpAny_bind (noclass hb ?_)
    simp only [Bool.false_eq_true, if_false]
    exact wpAny_pure (wpAny_pure (wpAny_pure h))
end
end Mine
end
section
open PySem PyProof.Rows
namespace Mine
def slotOf (k : Int) : Nat := if k = 0 then 0 else if k = 1 then 1 else 3
def tbk (ks : List Int) (led : Bool) : SetTable := { mask := 7, place := (ks.map slotOf).toArray, dummies := #[], finger := 0, led := led, moves := 0, plain := true }
def es3 (l : List (Int × Addr)) : Array (Int × Value) := (l.map fun p => (hk p.1, Value.ref p.2)).toArray
def hsf (ks : List Int) (i : Nat) : Int := ((ks.map hk)[i]?).getD 0
theorem hashAt (l : List (Int × Addr)) : (fun i => (((es3 l)[i]?).map (·.1)).getD 0) = hsf (l.map (·.1)) := by
  funext i
  simp only [es3, hsf, List.getElem?_toArray, List.getElem?_map, Option.map_map]
  rfl
def all8 : List (List Int) := [[], [0], [1], [2], [0, 1], [0, 2], [1, 2], [0, 1, 2]]
def fitOk (ks : List Int) : Bool := [true, false].all fun led => (tbk ks led).fits ks.length && !(tbk ks led).gaveWay
def newOk (ks : List Int) (k : Int) : Bool := [true, false].all fun led =>
  decide ((tbk ks led).probe (hsf ks) (hk k) ((tbk ks led).probeStart (hk k)) = some (.empty (slotOf k) none))
def addOk (ks : List Int) (k : Int) : Bool := newOk ks k && [true, false].all fun led => decide ((tbk ks led).put (slotOf k) = (tbk (ks ++ [k]) led, ks.length)) && !(tbk (ks ++ [k]) led).tooFull
def yesOk (ks : List Int) (k : Int) (i : Nat) : Bool := [true, false].all fun led =>
  decide ((tbk ks led).probe (hsf ks) (hk k) ((tbk ks led).probeStart (hk k)) = some (.candidate (slotOf k) i ((tbk ks led).advance ((tbk ks led).probeStart (hk k))))) && decide ((tbk ks led).slot (slotOf k) = .live i) && decide (ks[i]? = some k)
theorem fits8 : all8.all fitOk = true := by decide +kernel
theorem look8 : (all8.all fun ks => [(0 : Int), 1, 2].all fun k => if k ∈ ks then yesOk ks k (ks.idxOf k) else newOk ks k) = true := by decide +kernel
theorem adds : (addOk [] 0 && addOk [] 1 && addOk [] 2 && addOk [0] 1 && addOk [0] 2 && addOk [1] 2 && addOk [0, 1] 2) = true := by decide +kernel
theorem only8 : (all8.all fun ks => [(0 : Int), 1, 2].all fun k => if k ∈ ks then decide ((ks.filter fun x => hk x == hk k) = [k]) else true) = true := by decide +kernel
end Mine
end
section
open PySem PyProof.Rows
namespace Mine
theorem insert_end {l : List (Int × Value)} {x : Int × Value} : SetTable.insertAt l.toArray l.length x = (l ++ [x]).toArray := by
  unfold SetTable.insertAt
  have h1 : l.toArray.extract 0 l.length = l.toArray := by simp
  have h2 : l.toArray.extract l.length l.toArray.size = #[] := by simp
  rw [h1, h2]
  simp
/-- the set's object -/
def set3 (l : List (Int × Addr)) (ep : Nat) (led : Bool) : Obj := setObj (es3 l) ep (tbk (l.map (·.1)) led)
theorem es3_size (l : List (Int × Addr)) : (es3 l).size = (l.map (·.1)).length := by simp [es3]
section
variable {prog : Program} {w : World} {A : Around} {E : Value → Shared → Prop} {s : Shared} {S a b : Addr} {l : List (Int × Addr)} {ep : Nat} {led : Bool} {k : Int}
theorem bothB {p : Bool → Bool} (h : [true, false].all p = true) (b : Bool) : p b = true := by
  simp only [List.all_cons, List.all_nil, Bool.and_true, Bool.and_eq_true] at h
  cases b
  · exact h.2
  · exact h.1
theorem put_set {h : Heap} {es es' : Array (Int × Value)} {t t' : SetTable} (ho : h.get? S = some (setObj es ep t)) : (h.update S (Obj.putSet es' t')).get? S = some (setObj es' (ep + 1) t') := by
  have := Heap.get?_update_self (Obj.putSet es' t') ho (by rw [putSet_of es' t' rfl]; rfl)
  rw [putSet_of es' t' rfl] at this; exact this
theorem add3 {Q : Bool → Shared → Prop} (hfit : fitOk (l.map (·.1)) = true) (hadd : addOk (l.map (·.1)) k = true) (ha : IsTupleKey (intKind prog w) s.heap [k] a) (ho : s.heap.get? S = some (set3 l ep led)) (hu : A.units < cLine) (hz : l.length + 1 ≤ sizeLine)
    (h : ∀ h', Heap.SameBut S s.heap h' → h'.get? S = some (set3 (l ++ [(k, a)]) (ep + 1) led) → Q true { s with heap := h', toks := s.toks + 2 }) : wpAny (model prog w) A (setAdd S (.ref a)) Q E s := by
  have hf := bothB hfit led
  simp only [Bool.and_eq_true, Bool.not_eq_true'] at hf
  simp only [addOk, Bool.and_eq_true] at hadd
  obtain ⟨hnew, hadd⟩ := hadd
  have hn := bothB hnew led
  have hd := bothB hadd led
  simp only [Bool.and_eq_true, Bool.not_eq_true', decide_eq_true_eq] at hd hn
  have e : SetTable.insertAt (es3 l) ((l.map (·.1)).length) (hk k, Value.ref a) = es3 (l ++ [(k, a)]) := by
    have := @insert_end (l.map fun p => (hk p.1, Value.ref p.2)) (hk k, Value.ref a)
    simp only [List.length_map] at this ⊢
    simp only [es3, List.map_append, List.map_cons, List.map_nil]
    exact this
  refine add_new (es := es3 l) (ep := ep) (t := tbk (l.map (·.1)) led) (p := (l.map (·.1)).length) (j := slotOf k) (t' := tbk (l.map (·.1) ++ [k]) led) ha ho ?_ hf.2 ?_ rfl hd.1 hd.2 hu ?_ ?_
  · rw [es3_size]; exact hf.1
  · rw [hashAt]; exact hn
  · rw [e, es3_size]; simpa using hz
  · rw [e]
    refine h _ (Heap.SameBut.update s.heap S _) ?_
    have := put_set (es' := es3 (l ++ [(k, a)])) (t' := tbk (l.map (·.1) ++ [k]) led) ho
    rw [this]
    simp [set3]
theorem has3 {Q : Bool → Shared → Prop} (h8 : l.map (·.1) ∈ all8) (hk3 : k = 0 ∨ k = 1 ∨ k = 2) (hl : ∀ p ∈ l, IsTupleKey (intKind prog w) s.heap [p.1] p.2) (ha : IsTupleKey (intKind prog w) s.heap [k] a) (ho : s.heap.get? S = some (set3 l ep led)) (hu : A.units < cLine)
    (h : Q (decide (k ∈ l.map (·.1))) { s with toks := s.toks + 2 }) : wpAny (model prog w) A (setContains S (.ref a)) Q E s := by
  have hfit := List.all_eq_true.mp fits8 _ h8
  have hf := bothB hfit led
  simp only [Bool.and_eq_true, Bool.not_eq_true'] at hf
  have hkm : k ∈ [(0 : Int), 1, 2] := by simpa using hk3
  have hlook := List.all_eq_true.mp (List.all_eq_true.mp look8 _ h8) _ hkm
  have honly := List.all_eq_true.mp (List.all_eq_true.mp only8 _ h8) _ hkm
  by_cases hm : k ∈ l.map (·.1)
  · rw [if_pos hm] at hlook honly
    have hy := bothB hlook led
    simp only [Bool.and_eq_true, decide_eq_true_eq] at hy honly
    obtain ⟨⟨hp, hj⟩, hi⟩ := hy
    rw [List.getElem?_map] at hi
    obtain ⟨q, hq, hqk⟩ := Option.map_eq_some_iff.mp hi
    have hqm : q ∈ l := List.mem_of_getElem? hq
    have hb := hl q hqm
    rw [hqk] at hb
    have hfil : ((es3 l).filter (·.1 == hk k)).toList.map (·.2) = [.ref q.2] := by
      have e1 : (l.filter fun x => hk x.1 == hk k).map Prod.fst = [k] := by
        rw [List.filter_map] at honly; exact honly
      have e2 : ((es3 l).filter (·.1 == hk k)).toList.map (·.2) = (l.filter fun x => hk x.1 == hk k).map fun x => Value.ref x.2 := by
        simp only [es3, List.filter_toArray, List.filter_map, List.map_map]
        rfl
      rw [e2]
      have hqf : q ∈ l.filter fun x => hk x.1 == hk k := List.mem_filter.mpr ⟨hqm, by rw [hqk]; simp⟩
      cases hc : (l.filter fun x => hk x.1 == hk k) with
      | nil => rw [hc] at e1; cases e1
      | cons x r =>
        rw [hc] at e1 hqf
        simp only [List.map_cons, List.cons.injEq, List.map_eq_nil_iff] at e1
        obtain ⟨_, rfl⟩ := e1
        rw [List.mem_singleton.mp hqf]
        rfl
    refine find_yes (es := es3 l) (ep := ep) (t := tbk (l.map Prod.fst) led) (b := q.2) ha hb ho (by rw [es3_size]; exact hf.1) hf.2 (by rw [hashAt]; exact hp) ?_ hj hu ?_ ?_
    · simp only [es3, List.getElem?_toArray, List.getElem?_map, hq, Option.map_some, hqk]
    · intro P hP
      rw [hfil]
      exact unseen (s := { s with toks := s.toks + 2 }) ha hb hP
    · rw [decide_eq_true hm] at h; exact h
  · rw [if_neg hm] at hlook
    have hn := bothB hlook led
    simp only [decide_eq_true_eq] at hn
    refine find_not (es := es3 l) (ep := ep) (t := tbk (l.map Prod.fst) led) ha ho (by rw [es3_size]; exact hf.1) hf.2 (by rw [hashAt]; exact hn) hu ?_
    rw [decide_eq_false hm] at h; exact h
end
end Mine
end
section
open PySem PyProof.Rows
namespace Mine
section
variable {prog : Program} {w : World} {A : Around} {E : Value → Shared → Prop} {s : Shared} {S a b : Addr} {l : List (Int × Addr)} {ep : Nat} {led : Bool} {k : Int}
theorem set3_type (ho : s.heap.get? S = some (set3 l ep led)) : s.TypeIs (.ref S) "set" := ⟨_, ho, rfl⟩
theorem in3 {Q : Value → Shared → Prop} (h8 : l.map (·.1) ∈ all8) (hk3 : k = 0 ∨ k = 1 ∨ k = 2) (hl : ∀ p ∈ l, IsTupleKey (intKind prog w) s.heap [p.1] p.2) (ha : IsTupleKey (intKind prog w) s.heap [k] a) (ho : s.heap.get? S = some (set3 l ep led)) (hu : A.units + 8 < cLine)
    (h : Q (.bool (decide (k ∈ l.map (·.1)))) { s with toks := s.toks + 2 }) : wpAny (model prog w) A (compareOp .In (.ref a) (.ref S)) Q E s := by
  have hT := set3_type ho
  show wpAny _ _ (do return .bool (← contains (.ref S) (.ref a))) Q E s
  refine wpAny_bind ?_
  unfold contains
  try with_reducible refine wpAny_holding ?_
  refine wpAny_bind (wpAny_specialOf hT F.slot_set_contains.lookup ?_)
  show wpAny _ _ (if (some (Value.builtin "set.__contains__") == some Value.none) = true then _ else _) _ E s
  rw [if_neg (by rw [beq_builtin_none]; exact Bool.false_ne_true)]
  refine wpAny_bind (wpAny_callSpecialUnlessNone?_slot (name := Str.ofString "__contains__") hT F.slot_set_contains
    (wpAny_call_entry F.slot_set_contains hT entry_set_contains ?_ (F.args_set_contains_2 _ _)))
  unfold Builtin.«frozenset.__contains__» Builtin.Frozenset.oneOther
  simp only [List.isEmpty_nil, bind_assoc]
  unfold Builtin.Frozenset.addrOf Builtin.Frozenset.withSetAsKey
  refine wpAny_bind (wpAny_pure ?_)
  try dsimp only
  refine wpAny_bind (wpAny_pure ?_)
  try dsimp only
  refine wpAny_bind (wpAny_tryCatch ?_)
  refine has3 h8 hk3 hl ha ho ?_ ?_
  · show A.units + 1 < cLine
    omega
  · show wpAny _ _ (ret (Value.bool _)) _ _ _
    exact wpAny_pure ⟨_, rfl, wpAny_truthy_bool (wpAny_pure h)⟩
end
theorem key_keep {prog : Program} {w : World} {h h' : Heap} {k : Int} {b : Addr} (x : IsTupleKey (intKind prog w) h [k] b) (e : ∀ o, h.get? b = some o → h'.get? b = some o) : IsTupleKey (intKind prog w) h' [k] b :=
  let ⟨o, items, n, ho, r⟩ := x
  ⟨o, items, n, e o ho, r⟩
section
variable {prog : Program} {w : World} {A : Around} {R : Result → Shared → Prop} {I : Addr} {fp wr : List Addr} {G : Array GenState → Array GenState → Prop} {n : Nat} {P : Nat → Value → Prop} {St : Nat → Shared → Prop}
theorem loop3 (W : WalksS prog w A.in1 I fp wr G n P St) (S : Addr) (hSf : S ∉ fp) (xs : List (Int × Addr)) (hn : xs.length = n) (led : Bool)
    (hP : ∀ i v, P i v → ∃ p, xs[i]? = some p ∧ v = .ref p.2) (good : ∀ i p, xs[i]? = some p → fitOk ((xs.take i).map (·.1)) = true ∧ addOk ((xs.take i).map (·.1)) p.1 = true)
    (hS : ∀ p ∈ xs, p.2 ≠ S ∧ p.2 ∉ wr) (hu : A.units + 8 < cLine) (hz : n + 1 ≤ sizeLine) :
    ∀ (k i : Nat) (s : Shared), n - i = k → i ≤ n → St i s → s.heap.get? S = some (set3 (xs.take i) i led) → (∀ p ∈ xs, IsTupleKey (intKind prog w) s.heap [p.1] p.2) →
      (∀ s', Moved (S :: wr) G s s' → s'.heap.get? S = some (set3 xs n led) → R (.ok (.ret .none)) s') →
      codeAny (model prog w) A (.builtin "set.update.loop" ⟨[.ref S, .ref I], []⟩) R s := by
  have hSw : S ∉ wr := fun h => hSf (W.sub _ h)
  have hsub : ∀ b ∈ wr, b ∈ S :: wr := fun b hb => List.mem_cons_of_mem _ hb
  intro k
  induction k with
  | zero =>
    intro i s hk hi hst hSet hX hR
    have hin : i = n := by omega
    subst hin
    refine codeAny_builtin F.entry_set_update_loop ?_
    rw [Around.under_plainId F.plain_set_update_loop _]
    show wpAny _ A.in1 (pyNext (.ref I) >>= _) _ _ s
    refine wpAny_bind (W.done s _ _ hst fun s' hm => ?_)
    show wpAny _ A.in1 (ret Value.none) _ _ s'
    refine wpAny_pure (hR s' (hm.mono hsub) ?_)
    rw [hm.heap S _ hSw hSet, ← hn, List.take_length]
  | succ k ih =>
    intro i s hk hi hst hSet hX hR
    have hlt : i < n := by omega
    refine codeAny_builtin F.entry_set_update_loop ?_
    rw [Around.under_plainId F.plain_set_update_loop _]
    show wpAny _ A.in1 (pyNext (.ref I) >>= _) _ _ s
    refine wpAny_bind (W.item i s _ _ hlt hst fun v s' hPv hst' hm => ?_)
    obtain ⟨p, hp, rfl⟩ := hP i v hPv
    have hSet' := hm.heap S _ hSw hSet
    have hX' : ∀ p ∈ xs, IsTupleKey (intKind prog w) s'.heap [p.1] p.2 := fun q hq => key_keep (hX q hq) fun o e => hm.heap q.2 o (hS q hq).2 e
    have hpm : p ∈ xs := List.mem_of_getElem? hp
    obtain ⟨g1, g2⟩ := good i p hp
    show wpAny _ A.in1 (holding [Value.ref p.2] (setAdd S (.ref p.2)) >>= _) _ _ s'
    refine wpAny_bind (wpAny_holding ?_)
    refine add3 (l := xs.take i) (ep := i) (led := led) (k := p.1) g1 g2 (hX' p hpm) hSet' (by show A.units + 1 < cLine; omega) (by rw [List.length_take]; omega) fun h' hsb hS2 => ?_
    have et : xs.take i ++ [(p.1, p.2)] = xs.take (i + 1) := by
      rw [List.take_add_one, hp]; rfl
    rw [et] at hS2
    refine wpAny_pure ⟨plainId_quiet F.plain_set_update_loop _, ih (i + 1) _ (by omega) hlt (W.frame _ s' _ _ hst' (by omega) fun b hb o e => ?_) hS2 (fun q hq => key_keep (hX' q hq) fun o e => ?_) fun s'' hm'' hS'' => ?_⟩
    · rw [hsb.2 b (fun h : b = S => hSf (by rw [← h]; exact hb))]; exact e
    · rw [hsb.2 q.2 (hS q hq).1]; exact e
    · refine hR s'' (Moved.trans W.gtrans ((hm.mono hsub).then_heap (by omega) fun b o hb e => ?_) hm'') hS''
      rw [hsb.2 b (fun h : b = S => hb (by rw [h]; exact List.mem_cons_self))]; exact e
end
end Mine
end
section
open PySem PyProof.Rows
namespace Mine
section
variable {prog : Program} {w : World} {A : Around} {E : Value → Shared → Prop} {s : Shared}
def freshSet (led : Bool) : Obj := { cls := .type "set", dict := none, data := .set #[] 0 (.fresh 0 0 led) }
theorem call_set3 {l : Addr} {xs : List (Int × Addr)} {Q : Value → Shared → Prop}
    (hh : A.handled = none) (hl : s.heap.IsList l (xs.map fun p => Value.ref p.2).toArray) (good : ∀ i p, xs[i]? = some p → fitOk ((xs.take i).map (·.1)) = true ∧ addOk ((xs.take i).map (·.1)) p.1 = true)
    (hX : ∀ p ∈ xs, IsTupleKey (intKind prog w) s.heap [p.1] p.2) (hu : A.units + 64 < cLine) (hz : xs.length + 1 ≤ sizeLine)
    (h : ∀ (h' : Heap) (tk : Nat) (led : Bool), h'.get? s.heap.objs.size = some (set3 xs xs.length led) →
      (∀ b o, b < s.heap.objs.size → s.heap.get? b = some o → h'.get? b = some o) → Q (.ref s.heap.objs.size) { s with heap := h', toks := tk }) :
    wpAny (model prog w) A (call (.type "set") [.ref l]) Q E s := by
  obtain ⟨c, tl, hmro⟩ := F.called_set.mro
  have hmade := F.called_set.made
  have hsub := F.called_set.sub
  refine wpAny_call (codeAny_of_tree ?_)
  show wpAny _ _ (callAny (.type "set") _) _ _ _
  refine wpAny_pure ⟨Code.quiet_builtin _ (by decide +kernel), codeAny_builtin F.entry_type_call ?_⟩
  rw [Around.under_plain (weight_type_call_type "set" [.ref l] []) rfl]
  have h1 := F.called_set.notType
  have h2 := F.called_set.canCreate
  have hct := F.typeCall_set_1 (.ref l)
  repeat (any_goals (first | assumption | wp_step))
  refine codeAny_mono (code_set_new_1 (.ref l) (E := E) (Q₁ := fun obj s₁ => ∃ led : Bool, obj = .ref s.heap.objs.size ∧ s₁ = { s with heap := s.heap.push (freshSet led) }) fun led => ⟨led, rfl, rfl⟩) fun r s₁ hr => ?_
  cases r with
  | error e => exact hr
  | ok fl =>
    cases fl with
    | ret obj =>
      obtain ⟨led, rfl, rfl⟩ := hr
      have hS : (s.heap.push (freshSet led)).get? s.heap.objs.size = some (freshSet led) := Heap.get?_push_size _ rfl
      have hT : Shared.TypeIs { s with heap := s.heap.push (freshSet led) } (.ref s.heap.objs.size) "set" := ⟨_, hS, rfl⟩
      have hli := F.called_set.init.lookup
      have hbi := F.called_set.init.bind (.ref s.heap.objs.size)
      repeat (any_goals (first | assumption | wp_step))
      refine codeAny_mono (codeAny_call_builtin (R := wants (fun r s₂ => r = .none ∧ ∃ h' tk, s₂ = { s with heap := h', toks := tk } ∧
          h'.get? s.heap.objs.size = some (set3 xs xs.length led) ∧
          (∀ b o, b < s.heap.objs.size → s.heap.get? b = some o → h'.get? b = some o)) E) F.called_set.init.plain F.entry_set_init (check_set_init_1 hT ?_)) fun r₂ s₂ hr₂ => ?_
      · obtain ⟨ol, hol, hcl, nl, hdl⟩ := hl
        obtain ⟨ocls, odict, odata, oslots⟩ := ol
        simp only at hcl hdl
        subst hcl; subst hdl
        have hol' : (s.heap.push (freshSet led)).get? l = some { cls := .type "list", dict := odict, data := .seq (xs.map fun p => Value.ref p.2).toArray nl, slots := oslots } := Heap.get?_push_of_some _ hol
        have hsls := F.sub_list_set
        have hslf := F.sub_list_frozenset
        have hne : (Value.type "list" == Value.type "dict") = false := by decide
        have hl1 : (s.heap.push (freshSet led)).IsList l (xs.map fun p => Value.ref p.2).toArray := ⟨_, hol', rfl, nl, rfl⟩
        unfold Builtin.«set.__init__» noKeywords Builtin.Frozenset.updateFrom
        generalize hPI : pyIter = PI
        wp_walk
        subst hPI
        refine wpAny_pyIter_list hl1 ?_
        refine wpAny_bind (wpAny_runValue ?_)
        have hlS : l < s.heap.objs.size := Heap.lt_size hol
        have hh3 : A.in1.in1.in1.handled = none := by simp [hh]
        have hneI : l ≠ (s.heap.push (freshSet led)).objs.size := by
          rw [Heap.size_push]; exact Nat.ne_of_lt (Nat.lt_succ_of_lt hlS)
        have hSf : s.heap.objs.size ∉ [(s.heap.push (freshSet led)).objs.size, l] := by
          rw [Heap.size_push]; simp only [List.mem_cons, List.not_mem_nil, or_false, not_or]
          exact ⟨Nat.ne_of_lt (Nat.lt_succ_self _), Nat.ne_of_gt hlS⟩
        have hXlt : ∀ p ∈ xs, p.2 < s.heap.objs.size := fun p hp => let ⟨_, _, _, ho, _⟩ := hX p hp; Heap.lt_size ho
        refine loop3 ((Walks.list hh3 _ l hneI (xs.map fun p => Value.ref p.2).toArray).toS) s.heap.objs.size hSf xs (by simp) led ?hP good ?hSS ?hU (by simpa using hz) _ 0 _ rfl (Nat.zero_le _)
          ⟨⟨_, Heap.get?_push_size _ rfl, rfl, rfl⟩, (hl1.push _)⟩ ?hS0 ?hX0 ?hR
        case hP =>
          intro i v hv
          simp only [List.getElem?_toArray, List.getElem?_map] at hv
          obtain ⟨p, hp, rfl⟩ := Option.map_eq_some_iff.mp hv
          exact ⟨p, hp, rfl⟩
        case hSS =>
          intro p hp
          have := hXlt p hp
          refine ⟨Nat.ne_of_lt this, fun hmem => absurd (List.mem_singleton.mp hmem) (Nat.ne_of_lt ?_)⟩
          rw [Heap.size_push]
          exact Nat.lt_succ_of_lt this
        case hU =>
          show A.units + 1 + 1 + 8 < cLine
          omega
        case hS0 => exact Heap.get?_push_of_some _ hS
        case hX0 => exact fun p hp => key_keep (hX p hp) fun o e => Heap.get?_push_of_some _ (Heap.get?_push_of_some _ e)
        case hR =>
          intro s' hm hS'
          obtain ⟨h', g', d', tk', os'⟩ := s'
          have eg : g' = s.gens := hm.gens
          have ed : d' = s.drawn := hm.drawn
          have eo : os' = s.os := hm.os
          subst eg; subst ed; subst eo
          show wpAny _ _ _ _ _ _
          refine wpAny_pure ?_
          show wpAny _ _ (ret Value.none) _ _ _
          refine wpAny_pure ⟨rfl, h', tk', rfl, by simpa using hS', fun b o hb e => ?_⟩
          have hb1 : b ≠ s.heap.objs.size := Nat.ne_of_lt hb
          have hb2 : b ≠ (s.heap.push (freshSet led)).objs.size := by
            rw [Heap.size_push]; exact Nat.ne_of_lt (Nat.lt_succ_of_lt hb)
          exact hm.heap b o (by simp only [List.mem_cons, List.not_mem_nil, or_false, not_or]; exact ⟨hb1, hb2⟩) (Heap.get?_push_of_some _ (Heap.get?_push_of_some _ e))
      · cases r₂ with
        | error e => exact hr₂
        | ok fl₂ =>
          cases fl₂ with
          | ret r =>
            obtain ⟨rfl, h', tk, rfl, hS', hk'⟩ := hr₂
            repeat (any_goals (first | assumption | wp_step))
            exact h _ _ led hS' hk'
          | _ => exact hr₂.elim
    | _ => exact hr.elim
end
end Mine
end
section
open PySem PyProof.Rows
namespace Mine
abbrev MK := Sum Str Int
def mixIs : MK → Value → Bool
  | .inl x, v => Value.isStrOf x v
  | .inr n, v => Value.isInt n v
def mixHash (w : World) : MK → Int
  | .inl x => hashStr w x
  | .inr n => hashInt n
section
variable {prog : Program} {w : World} {A : Around} {E : Value → Shared → Prop} {s : Shared}
theorem eqB_str_int {a : Str} {t : Tok} {b : Int} {u : Tok} {Q : Bool → Shared → Prop} (h : Q false s) : wpAny (model prog w) A (eqBool (.str a t) (.int b u)) Q E s := by
  unfold eqBool
  refine wpAny_holding ?_
  have e : (Value.str a t == Value.int b u) = false := by rfl
  rw [e, if_neg Bool.false_ne_true]
  exact wpAny_bind (EqMixed.eq_str_int (wpAny_truthy_bool h))
theorem eqB_int_str {a : Str} {t : Tok} {b : Int} {u : Tok} {Q : Bool → Shared → Prop} (h : Q false s) : wpAny (model prog w) A (eqBool (.int b u) (.str a t)) Q E s := by
  unfold eqBool
  refine wpAny_holding ?_
  have e : (Value.int b u == Value.str a t) = false := by rfl
  rw [e, if_neg Bool.false_ne_true]
  exact wpAny_bind (EqMixed.eq_int_str (wpAny_truthy_bool h))
end
def mixKind (prog : Program) (w : World) : KeyKind prog w MK where
  is := mixIs
  hash := mixHash w
  inj := fun v a b ha hb => by
    cases a <;> cases b <;> simp only [mixIs] at ha hb
    · rw [Value.isStrOf_inj v _ _ ha hb]
    · obtain ⟨t, rfl⟩ := Value.isStrOf_shape ha; simp [Value.isInt] at hb
    · obtain ⟨t, rfl⟩ := Value.isInt_shape ha; simp [Value.isStrOf] at hb
    · rw [Value.isInt_inj v _ _ ha hb]
  byValue := fun k v h => by
    cases k <;> simp only [mixIs] at h
    · obtain ⟨t, rfl⟩ := Value.isStrOf_shape h; rfl
    · obtain ⟨t, rfl⟩ := Value.isInt_shape h; rfl
  pyHash := fun {_ _ _ k _ _} hv h => by
    cases k <;> simp only [mixIs] at hv
    · obtain ⟨t, rfl⟩ := Value.isStrOf_shape hv; exact wpAny_pyHash_str h
    · obtain ⟨t, rfl⟩ := Value.isInt_shape hv; exact wpAny_pyHash_int h
  eqBool := fun {_ _ _ a b _ _ _} hu hv h => by
    cases a <;> cases b <;> simp only [mixIs] at hu hv
    · obtain ⟨t, rfl⟩ := Value.isStrOf_shape hu
      obtain ⟨u, rfl⟩ := Value.isStrOf_shape hv
      exact wpAny_eqBool_str (by simpa using h)
    · obtain ⟨t, rfl⟩ := Value.isStrOf_shape hu
      obtain ⟨u, rfl⟩ := Value.isInt_shape hv
      exact eqB_str_int (by simpa using h)
    · obtain ⟨t, rfl⟩ := Value.isInt_shape hu
      obtain ⟨u, rfl⟩ := Value.isStrOf_shape hv
      exact eqB_int_str (by simpa using h)
    · obtain ⟨t, rfl⟩ := Value.isInt_shape hu
      obtain ⟨u, rfl⟩ := Value.isInt_shape hv
      exact wpAny_eqBool_int (by simp only [Sum.inr.injEq] at h; exact h)
  «strs» := fun k x t v h => by
    cases k <;> simp only [mixIs] at h ⊢
    · obtain ⟨u, hu⟩ := Value.isStrOf_shape h
      injection hu with hx
      subst hx
      cases v <;> rfl
    · simp [Value.isInt] at h
abbrev PK : List MK := [.inl (Str.ofString "P"), .inr 1]
abbrev pkind (prog : Program) (w : World) : HeapKind prog w (List MK) := tupleKind (mixKind prog w)
section
variable {prog : Program} {w : World} {A : Around} {E : Value → Shared → Prop} {s : Shared} {a d o : Addr} {v : Value}
/-- the dict of one pair -/
def One (prog : Program) (w : World) (h : Heap) (d a : Addr) (v : Value) : Prop := h.DictOfH (pkind prog w) d [(PK, a, v)]
theorem one_set {Q : Unit → Shared → Prop} (hu : A.units < cLine) (hkey : (pkind prog w).is s.heap PK a) (hm : s.heap.DictOfH (pkind prog w) d [])
    (h : ∀ h', One prog w h' d a v → Heap.SameBut d s.heap h' → Q () { s with heap := h', toks := s.toks + 3 }) : wpAny (model prog w) A (dictSet d (.ref a) v) Q E s :=
  wpAny_dictSet_heap (knd := pkind prog w) hu hkey hm (fun h' hm' hs => h h' hm' hs) (by decide +kernel)
theorem one_sub {pairs : List (Sem Value × Sem Value)} {Q : Addr → Shared → Prop} (hlen : pairs.length ≤ 15) (hu : A.units < cLine)
    (h : wpAny (model prog w) A (evalPairs pairs) (fun vs s₁ => ∃ a v, vs = [(.ref a, v)] ∧ (pkind prog w).is s₁.heap PK a ∧ s₁.heap.DictOfH (pkind prog w) s.heap.objs.size [] ∧
      ∀ h', One prog w h' s.heap.objs.size a v → Heap.SameBut s.heap.objs.size s₁.heap h' → Q s.heap.objs.size { s₁ with heap := h', toks := s₁.toks + 3 }) E
      { s with heap := s.heap.push { cls := .type "dict", data := .dict #[] } }) :
    wpAny (model prog w) A (subDict pairs) Q E s := by
  unfold subDict
  refine wpAny_bind (wpAny_alloc ?_)
  refine wpAny_bind (wpAny_holding ?_)
  rw [if_pos hlen]
  refine wpAny_bind (wpAny_mono h (fun vs s₁ h₁ => ?_) fun _ _ e => e)
  obtain ⟨a, v, rfl, hk, hm, hQ⟩ := h₁
  refine wpAny_holding ?_
  refine wpAny_bind ?_
  simp only [List.forIn_cons, List.forIn_nil]
  refine wpAny_bind (wpAny_bind (one_set hu hk hm fun h' hm' hs' => ?_))
  exact wpAny_pure (wpAny_pure (wpAny_pure (wpAny_pure (hQ h' hm' hs'))))
theorem one_disp {env : Env} {keys : List (Option PySem.Expr)} {values : List PySem.Expr} {pos : Pos} {Q : Value → Shared → Prop}
    (hall : keys.all (·.isSome) = true) (hl : keys.length = values.length) (h0 : keys ≠ []) (hlen : keys.length ≤ 15) (hu : A.units < cLine)
    (h : wpAny (model prog w) A (evalPairs (pairTrees keys values env pos)) (fun vs s₁ => ∃ a v, vs = [(.ref a, v)] ∧ (pkind prog w).is s₁.heap PK a ∧ s₁.heap.DictOfH (pkind prog w) s.heap.objs.size [] ∧
      ∀ h', One prog w h' s.heap.objs.size a v → Heap.SameBut s.heap.objs.size s₁.heap h' → Q (.ref s.heap.objs.size) { s₁ with heap := h', toks := s₁.toks + 3 }) E
      { s with heap := s.heap.push { cls := .type "dict", data := .dict #[] } }) :
    wpAny (model prog w) A (eval (.Dict keys values pos) env) Q E s := by
  have hn := pairTrees_length keys values env pos hall hl
  rw [arm_eval_Dict, zip_pairTrees keys values env pos hall hl, dictDisplay_pairs (pairTrees keys values env pos) (fun he => by rw [he] at hn; exact h0 (List.length_eq_zero_iff.mp hn.symm)) (by omega)]
  refine wpAny_bind (wpAny_standAt (wpAny_bind (one_sub (Q := fun d s' => wpAny (model prog w) A (pure (Value.ref d)) Q E s') (by omega) hu (wpAny_mono h (fun vs s₁ h₁ => ?_) fun _ _ e => e))))
  obtain ⟨a, v, e, hk, hm, hq⟩ := h₁
  exact ⟨a, v, e, hk, hm, fun h' x y => wpAny_pure (hq h' x y)⟩
theorem one_merge {nm : String} {Q : Unit → Shared → Prop} (hdo : d ≠ o) (hoS : (o == sysModules) = false) (hd : s.heap.DictOfH (pkind prog w) d []) (ho : One prog w s.heap o a v)
    (hQ : ∀ h', One prog w h' d a v → Heap.SameBut d s.heap h' → Q () { s with heap := h' }) : wpAny (model prog w) A (Builtin.Dict.mergeDict nm d o) Q E s := by
  obtain ⟨od, esd, epd, hod, hcd, hdd, hed, hkd, hnd⟩ := id hd
  obtain ⟨oo, eso, epo, hoo, hco, hdo', heo, hko, hno⟩ := id ho
  have hka : (pkind prog w).is s.heap PK a := hko (PK, a, v) List.mem_cons_self
  have ees : eso = #[entryOfKey (pkind prog w) (PK, a, v)] := Array.toList_inj.mp heo
  have eds : esd = #[] := Array.toList_inj.mp hed
  subst ees; subst eds
  unfold Builtin.Dict.mergeDict
  rw [if_neg (by simpa using hdo)]
  unfold Builtin.Dict.showsAll
  rw [if_neg (by rw [hoS]; exact Bool.false_ne_true)]
  refine wpAny_bind (wpAny_pure ?_)
  refine wpAny_bind (wpAny_dictEntries hoo hdo' ?_)
  dsimp only
  obtain ⟨e, he⟩ : ∃ e, e = entryOfKey (pkind prog w) (PK, a, v) := ⟨_, rfl⟩
  have hkey : e.key = .ref a := by rw [he]; rfl
  rw [← he] at hdo' ⊢
  have hQ' : Q () { s with heap := s.heap.update d (Obj.mapDictKeys fun _ => #[e]) } := by
    refine hQ _ ⟨_, _, _, Heap.get?_update_self _ hod (Obj.isFreed_of_dict (Obj.data_mapDictKeys hdd _)), hcd.mapDictKeys _, Obj.data_mapDictKeys hdd _, by rw [he]; rfl, ?_, hno⟩ (Heap.SameBut.update ..)
    intro x hx
    exact (pkind prog w).keeps (hko x hx) hod hdd (Heap.SameBut.update ..)
  clear he heo hed hQ
  have hfew : (!(decide (#[e].size ≤ 8) && #[e].all fun e => (keyPart e.key).isSome)) = true := by simp [hkey, keyPart]
  rw [if_pos hfew]
  refine wpAny_bind (wpAny_dictEntries hod hdd ?_)
  rw [if_pos (by rfl)]
  refine wpAny_bind ?_
  unfold Builtin.Dict.entriesForEmpty
  refine wpAny_bind (wpAny_dictEntries hoo hdo' ?_)
  refine wpAny_bind ?_
  rw [← Array.forIn_toList]
  simp only [List.forIn_cons, List.forIn_nil]
  rw [hkey]
  refine wpAny_bind (wpAny_bind ?_)
  unfold Builtin.Dict.quietEq
  dsimp only
  refine wpAny_bind (wpAny_specialOf hka.typeIs F.slot_tuple_eq.lookup ?_)
  refine wpAny_pure ?_
  have hq : (some (Value.builtin "tuple.__eq__") == some (Value.builtin "object.__eq__")) = false := by decide
  rw [hq]
  simp only [Bool.not_false, if_true]
  have hsz : ¬ (Array.filter (fun x : DictEntry => x.hash == e.hash) #[e]).size > 1 := by
    have := Array.size_filter_le (p := fun x : DictEntry => x.hash == e.hash) (xs := #[e])
    exact Nat.not_lt.mpr this
  rw [if_neg hsz]
  refine wpAny_pure (wpAny_pure (wpAny_pure ?_))
  rw [if_pos (by rfl)]
  exact wpAny_bind (wpAny_updateDictKeys hod hdd (wpAny_pure hQ') (by simp) (by simp))
theorem one_meets (hd : (d == sysModules) = false) (a : Addr) (v : Value) :
    MeetsIn prog w (Builtin.«dict.__len__» ⟨[.ref d], []⟩) (fun _ R s => One prog w s.heap d a v ∧ R (.ok (.ret (.int 1 s.toks))) { s with toks := s.toks + 1 }) :=
  .of_wp fun A R s ⟨hm, h⟩ => by
    obtain ⟨o, es, ep, ho, hc, hdat, he, hk, hn⟩ := hm
    show wpAny _ _ (dictSize d >>= _) _ _ s
    unfold dictSize
    refine wpAny_bind (wpAny_bind (wpAny_dictEntries ho hdat (wpAny_pure ?_)))
    show wpAny _ _ (Builtin.Dict.pendingCount d >>= _) _ _ s
    refine wpAny_bind (wpAny_pendingCount_other hd ?_)
    refine wpAny_ret_mkInt ?_
    have : es.size = 1 := by rw [size_of_entries he]; rfl
    rw [Nat.add_zero, this]; exact h
theorem one_len {Q : Value → Shared → Prop} (hd : (d == sysModules) = false) (hm : One prog w s.heap d a v)
    (h : Q (.int 1 (s.toks + 1)) { s with toks := s.toks + 1 + 1 }) : wpAny (model prog w) A (Builtin.«len» ⟨[.ref d], []⟩) (fun fin s' => ∃ r, fin = .done (.ret r) ∧ Q r s') E s := by
  have hT := hm.typeIs
  unfold Builtin.«len»
  refine wpAny_bind (m := oneArg "len" _) (wpAny_pure ?_)
  refine wpAny_bind (m := callSpecial? (.ref d) (Str.ofString "__len__")) (wpAny_callSpecial?_slot (name := Str.ofString "__len__") hT F.slot_dict_len
    (call_meetsIn F.slot_dict_len hT F.entry_dict_len (F.args_dict_len_1 _) (one_meets hd a v) ⟨hm, ?_⟩))
  show wpAny _ _ _ _ _ { s with toks := s.toks + 1 }
  refine wpAny_bind (wpAny_holding (wpAny_pure ?_))
  refine wpAny_bind (wpAny_letGo ?_)
  show wpAny _ _ (if (1 : Int) < 0 then _ else _) _ _ _
  rw [if_neg (by decide)]
  show wpAny _ _ (if (1 : Int) ≥ 2 ^ 63 then _ else _) _ _ _
  rw [if_neg (by decide)]
  exact wpAny_bind (wpAny_mkInt (wpAny_pure ⟨_, rfl, h⟩))
theorem one_truthy {Q : Bool → Shared → Prop} (hd : (d == sysModules) = false) (hm : One prog w s.heap d a v)
    (h : Q true { s with toks := s.toks + 1 + 1 }) : wpAny (model prog w) A (truthy (.ref d)) Q E s := by
  have hT := hm.typeIs
  have key : wpAny (model prog w) A (runValue (.builtin "len" ⟨[.ref d], []⟩)) (fun r s' => r = .int 1 (s.toks + 1) ∧ Q true s') E s := by
    refine wpAny_runValue (codeAny_builtin entry_len ?_)
    rw [Around.under_plainId plain_len _]
    exact wpAny_mono (one_len (Q := fun r s' => r = .int 1 (s.toks + 1) ∧ Q true s') hd hm ⟨rfl, h⟩)
      (fun fin s' h' => by obtain ⟨r, rfl, hq⟩ := h'; exact hq) fun _ _ e => e
  unfold truthy
  first
    | refine wpAny_bind (wpAny_callSpecial?_none (name := Str.ofString "__bool__") hT noBool_dict ?_)
    | refine wpAny_bind (wpAny_pure (wpAny_bind (wpAny_callSpecial?_none (name := Str.ofString "__bool__") hT noBool_dict ?_)))
  first
    | refine wpAny_bind (wpAny_specialOf (name := Str.ofString "__len__") hT F.slot_dict_len.lookup ?_)
    | refine wpAny_bind (wpAny_pure (wpAny_bind (wpAny_specialOf (name := Str.ofString "__len__") hT F.slot_dict_len.lookup ?_)))
  first
    | exact wpAny_bind (wpAny_mono key (fun r s' h' => by obtain ⟨rfl, hq⟩ := h'; exact wpAny_pure hq) fun _ _ e => e)
    | exact wpAny_bind (wpAny_pure (wpAny_bind (wpAny_mono key (fun r s' h' => by obtain ⟨rfl, hq⟩ := h'; exact wpAny_pure hq) fun _ _ e => e)))
theorem one_copy {Q : Value → Shared → Prop} (hoS : (o == sysModules) = false) (ho : One prog w s.heap o a v)
    (h : ∀ h', One prog w h' s.heap.objs.size a v → Heap.SameBut s.heap.objs.size (s.heap.push { cls := .type "dict", data := .dict #[] }) h' → Q (.ref s.heap.objs.size) { s with heap := h' }) :
    wpAny (model prog w) A (call (.type "dict") [.ref o]) Q E s := by
  refine callType_codes (Q₁ := fun obj s₁ => obj = .ref s.heap.objs.size ∧ s₁ = { s with heap := s.heap.push { cls := .type "dict", data := .dict #[] } }) F.kt_called_dict (F.kt_typeCall_dict_1 _) F.entry_dict_init (kt_code_dict_new _ ⟨rfl, rfl⟩) ?_
  rintro obj s₁ ⟨rfl, rfl⟩
  have hnew : (s.heap.push { cls := .type "dict", data := .dict #[] }).DictOfH (pkind prog w) s.heap.objs.size [] := Heap.DictOfH.new s.heap
  have hlt : o < s.heap.objs.size := by obtain ⟨_, _, _, hg, _⟩ := ho; exact Heap.lt_size hg
  have ho' : One prog w (s.heap.push { cls := .type "dict", data := .dict #[] }) o a v := by
    obtain ⟨oo, es, ep, hg, hc, hd, he, hk, hn⟩ := ho
    refine ⟨oo, es, ep, Heap.get?_push_of_some _ hg, hc, hd, he, fun x hx => ?_, hn⟩
    obtain ⟨ox, items, n, hox, r⟩ := hk x hx
    exact ⟨ox, items, n, Heap.get?_push_of_some _ hox, r⟩
  have hdo : s.heap.objs.size ≠ o := Nat.ne_of_gt hlt
  have hTo : Shared.TypeIs { s with heap := s.heap.push { cls := .type "dict", data := .dict #[] } } (.ref o) "dict" := by
    obtain ⟨oo, _, _, hg, hc, _⟩ := ho'
    exact ⟨oo, hg, hc.1⟩
  refine ⟨hnew.typeIs, F.args_dict_init_2 _ _, ?_⟩
  unfold Builtin.«dict.__init__»
  refine wpAny_bind ?_
  unfold Builtin.Dict.selfAndRest
  refine wpAny_bind (wpAny_notOrdered_dict hnew.typeIs ?_)
  show wpAny _ _ (pure (s.heap.objs.size, [Value.ref o])) _ _ _
  refine wpAny_pure ?_
  show wpAny _ _ (Builtin.Dict.updateFrom "dict.__init__" s.heap.objs.size (.ref o) [] .none) _ _ _
  unfold Builtin.Dict.updateFrom
  refine wpAny_bind (wpAny_typeOf hTo ?_)
  rw [if_neg (by decide)]
  refine wpAny_bind ?_
  unfold Builtin.Dict.merge
  refine wpAny_bind ?_
  unfold Builtin.Dict.readDirectly
  refine wpAny_bind (wpAny_isInstance hTo isSubtype_dict_dict ?_)
  simp only [Bool.not_true, Bool.false_eq_true, if_false]
  refine wpAny_bind (wpAny_specialOf hTo F.slot_dict_iter.lookup (wpAny_pure ?_))
  simp only [beq_self_eq_true, if_true]
  refine wpAny_bind (wpAny_pure ?_)
  refine one_merge (s := { s with heap := s.heap.push { cls := .type "dict", data := .dict #[] } }) hdo hoS hnew ho' fun h' hd' hs' => ?_
  show wpAny _ _ (Builtin.Dict.addKeywords s.heap.objs.size [] >>= _) _ _ _
  exact wpAny_bind (wpAny_pure (wpAny_pure ⟨rfl, h h' hd' hs'⟩))
end
end Mine
end
section
open PySem PySem.W PyProof.Rows PyProof.V PySem.Spec
namespace Mine
abbrev tupO (vs : List Value) (n : Nat) : Obj := { cls := .type "tuple", data := .seq vs.toArray n }
def OneObj (prog : Program) (w : World) (o : Obj) (a : Addr) (v : Value) : Prop := ∃ es ep, o.ExactDict ∧ o.data = .dict es ep ∧ es.toList = [entryOfKey (pkind prog w) (PK, a, v)]
def OneMade (prog : Program) (w : World) (d : Addr) (Q : Value → Shared → Prop) (vs : List (Value × Value)) (s₁ : Shared) : Prop :=
  ∃ a v, vs = [(.ref a, v)] ∧ (pkind prog w).is s₁.heap PK a ∧ s₁.heap.DictOfH (pkind prog w) d [] ∧
      ∀ h', One prog w h' d a v → Heap.SameBut d s₁.heap h' → Q (.ref d) { s₁ with heap := h', toks := s₁.toks + 3 }
section
variable {prog : Program} {w : World} {A : Around} {E : Value → Shared → Prop} {s : Shared} {env : Env} {h₀ h : Heap} {L d a S : Addr} {m : Str → Option Value} {news : List (Addr × Obj)} {g : Obj → List (Addr × Obj)} {o : Obj} {v : Value} {t u : Tok} {n : Nat} {k : Int}
theorem pkey (N : News h₀ L h news) (hk : (a, tupO [.str (Str.ofString "P") t, .int 1 u] n) ∈ news) : (pkind prog w).is h PK a :=
  ⟨_, _, n, N.get hk, rfl, rfl, .cons (by simp [mixKind, mixIs, Value.isStrOf]) (.cons (by simp [mixKind, mixIs, Value.isInt]) .nil)⟩
theorem ikey (N : News h₀ L h news) (hk : (a, tupO [.int k t] n) ∈ news) : IsTupleKey (intKind prog w) h [k] a :=
  ⟨_, _, n, N.get hk, rfl, rfl, .cons (by simp [intKind, Value.isInt]) .nil⟩
theorem one_of (N : News h₀ L h news) (hd : (d, o) ∈ news) (ho : OneObj prog w o a v) (hk : (a, tupO [.str (Str.ofString "P") t, .int 1 u] n) ∈ news) : One prog w h d a v :=
  let ⟨es, ep, hc, hdat, he⟩ := ho
  ⟨o, es, ep, N.get hd, hc, hdat, he, fun x hx => by rw [List.mem_singleton.mp hx]; exact pkey N hk, by simp⟩
theorem one_obj (x : One prog w h d a v) : ∃ o, h.get? d = some o ∧ OneObj prog w o a v :=
  let ⟨o, es, ep, hg, hc, hd, he, _, _⟩ := x
  ⟨o, hg, es, ep, hc, hd, he⟩
theorem one_dispK {keys : List (Option PySem.Expr)} {values : List PySem.Expr} {pos : Pos} {Q : Value → Shared → Prop} (F : Fr h₀ L s.heap m) (N : News h₀ L s.heap news) (hbig : h₀.NoLimit)
    (hall : keys.all (·.isSome) = true) (hl : keys.length = values.length) (h0 : keys ≠ []) (hlen : keys.length ≤ 15) (hu : A.units < cLine)
    (h : ∀ (d : Addr) h', Fr h₀ L h' m → News h₀ L h' ((d, { cls := .type "dict", data := .dict #[] }) :: news) → (∀ p ∈ news, p.1 < d) → (d == sysModules) = false →
      wpAny (model prog w) A (evalPairs (pairTrees keys values env pos)) (fun vs s₁ => OneMade prog w d Q vs s₁) E { s with heap := h' }) :
    wpAny (model prog w) A (eval (.Dict keys values pos) env) Q E s :=
  one_disp hall hl h0 hlen hu (wpAny_mono (h _ _ (F.push _) (News.push F N _) (fun p hp => Heap.lt_size (N p hp).1) (F.notModules (modules_low hbig))) (fun _ _ x => x) fun _ _ x => x)
theorem one_made {Q : Value → Shared → Prop} (F : Fr h₀ L s.heap m) (N : News h₀ L s.heap news) (U : UpdF d { cls := .type "dict", data := .dict #[] } news g) (hk : (a, tupO [.str (Str.ofString "P") t, .int 1 u] n) ∈ news)
    (h : ∀ h' o', Fr h₀ L h' m → News h₀ L h' (g o') → OneObj prog w o' a v → Q (.ref d) { s with heap := h', toks := s.toks + 3 }) : OneMade prog w d Q [(.ref a, v)] s := by
  obtain ⟨pre, post, rfl, hg, x, y⟩ := U.split
  have hm := N (d, { cls := .type "dict", data := .dict #[] }) (List.mem_append_right _ (.head _))
  refine ⟨a, v, rfl, pkey N hk, ⟨_, #[], _, hm.1, ⟨rfl, rfl, rfl⟩, rfl, rfl, fun _ hx => (nomatch hx), List.nodup_nil⟩, fun h' hm' hs => ?_⟩
  obtain ⟨o', ho', hd'⟩ := one_obj hm'
  exact h h' o' (F.change hs hm.2.1 hm.2.2) (hg o' ▸ N.setIn x y hs ho') hd'
theorem one_copyK {src : Addr} {Q : Value → Shared → Prop} (F : Fr h₀ L s.heap m) (N : News h₀ L s.heap news) (hbig : h₀.NoLimit) (hS : (src == sysModules) = false) (hd : (src, o) ∈ news) (ho : OneObj prog w o a v) (hk : (a, tupO [.str (Str.ofString "P") t, .int 1 u] n) ∈ news)
    (h : ∀ d h' o', Fr h₀ L h' m → News h₀ L h' ((d, o') :: news) → (∀ p ∈ news, p.1 < d) → (d == sysModules) = false → OneObj prog w o' a v → Q (.ref d) { s with heap := h' }) : wpAny (model prog w) A (call (.type "dict") [.ref src]) Q E s := by
  refine one_copy hS (one_of N hd ho hk) fun h' hm hs => ?_
  obtain ⟨o', ho', hd'⟩ := one_obj hm
  have N1 := News.push F N { cls := .type "dict", data := .dict #[] }
  exact h _ h' o' ((F.push _).change hs (N1 _ (.head _)).2.1 (N1.fresh (.head _))) (N1.setHead N.apart hs ho') (fun p hp => Heap.lt_size (N p hp).1) (F.notModules (modules_low hbig)) hd'
theorem one_truthK {Q : Bool → Shared → Prop} (N : News h₀ L s.heap news) (hS : (d == sysModules) = false) (hd : (d, o) ∈ news) (ho : OneObj prog w o a v) (hk : (a, tupO [.str (Str.ofString "P") t, .int 1 u] n) ∈ news)
    (h : Q true { s with toks := s.toks + 1 + 1 }) : wpAny (model prog w) A (truthy (.ref d)) Q E s := one_truthy hS (one_of N hd ho hk) h
theorem one_notin {b : Addr} {t' u' : Tok} {n' : Nat} {Q : Value → Shared → Prop} (N : News h₀ L s.heap news) (hS : (d == sysModules) = false) (hd : (d, o) ∈ news) (ho : OneObj prog w o a v) (hk : (a, tupO [.str (Str.ofString "P") t, .int 1 u] n) ∈ news) (hb : (b, tupO [.str (Str.ofString "P") t', .int 1 u'] n') ∈ news)
    (hu : A.units + 1 < cLine) (h : Q (.bool false) { s with toks := s.toks + 3 }) : wpAny (model prog w) A (compareOp .NotIn (.ref b) (.ref d)) Q E s :=
  wpAny_notIn_heap (knd := pkind prog w) (k := PK) hu (pkey N hb) hS (one_of N hd ho hk) h
theorem one_item {b : Addr} {t' u' : Tok} {n' : Nat} {value slice : PySem.Expr} {Q : Value → Shared → Prop} (N : News h₀ L s.heap news) (hd : (d, o) ∈ news) (ho : OneObj prog w o a v) (hk : (a, tupO [.str (Str.ofString "P") t, .int 1 u] n) ∈ news) (hb : (b, tupO [.str (Str.ofString "P") t', .int 1 u'] n') ∈ news)
    (hu : A.units + 1 < cLine) (h : Q v { s with toks := s.toks + 3 })
    (hs : subscripted slice false (.ref d) (.ref b) = operate [.ref d, .ref b] (getItem (.ref d) (.ref b)) := by with_unfolding_all rfl) (hg : ∀ r, letTemporaryGo value (.ref d) r = pure () := by intro _; with_unfolding_all rfl) :
    wpAny (model prog w) A (subscriptTail value slice (.ref d) (.ref b)) Q E s :=
  subscriptTail_builtin (one_of N hd ho hk).typeIs slot_dict_getitem.lookup (wpAny_getItem_heap (knd := pkind prog w) (k := PK) (p := (a, v)) hu (pkey N hb) (one_of N hd ho hk) rfl h) hs hg
/-- what is known of the set -/
def RowsIn (news : List (Addr × Obj)) (l : List (Int × Addr)) : Prop := l.map (·.1) ∈ all8 ∧ ∀ p ∈ l, ∃ (t : Tok) (n : Nat), (p.2, tupO [.int p.1 t] n) ∈ news
theorem in3K {l : List (Int × Addr)} {ep : Nat} {led : Bool} {Q : Value → Shared → Prop} (N : News h₀ L s.heap news) (hS : (S, set3 l ep led) ∈ news) (hl : RowsIn news l) (hk3 : 0 ≤ k ∧ k < 3) (ha : (a, tupO [.int k t] n) ∈ news) (hu : A.units + 8 < cLine)
    (h : Q (.bool (decide (k ∈ l.map (·.1)))) { s with toks := s.toks + 2 }) : wpAny (model prog w) A (compareOp .In (.ref a) (.ref S)) Q E s :=
  in3 hl.1 (by omega) (fun p hp => let ⟨_, _, hm⟩ := hl.2 p hp; ikey N hm) (ikey N ha) (N.get hS) hu h
theorem set3K {lst : Addr} {xs : List (Int × Addr)} {e : Nat} {Q : Value → Shared → Prop} (F : Fr h₀ L s.heap m) (N : News h₀ L s.heap news) (hh : A.handled = none) (hl : (lst, listOf (xs.map fun p => Value.ref p.2).toArray e) ∈ news)
    (good : ∀ i p, xs[i]? = some p → fitOk ((xs.take i).map (·.1)) = true ∧ addOk ((xs.take i).map (·.1)) p.1 = true) (hx : ∀ p ∈ xs, ∃ (t : Tok) (n : Nat), (p.2, tupO [.int p.1 t] n) ∈ news) (hu : A.units + 64 < cLine) (hz : xs.length + 1 ≤ sizeLine)
    (h : ∀ D h' tk led, Fr h₀ L h' m → News h₀ L h' ((D, set3 xs xs.length led) :: news) → (∀ p ∈ news, p.1 < D) → Q (.ref D) { s with heap := h', toks := tk }) : wpAny (model prog w) A (call (.type "set") [.ref lst]) Q E s := by
  refine call_set3 hh (News.isList N hl) good (fun p hp => let ⟨_, _, hm⟩ := hx p hp; ikey N hm) hu hz fun h' tk led hS hk => ?_
  obtain ⟨oL, _, _, hL, _⟩ := F.ns
  have hLlt : L < s.heap.objs.size := Heap.lt_size hL
  refine h _ h' tk led ⟨F.ns.at' fun o' e => hk L o' hLlt e, fun b o' e => hk b o' (Heap.lt_size (F.keep b o' e)) (F.keep b o' e), F.above⟩ (fun p hp => ?_) (fun p hp => Heap.lt_size (N p hp).1)
  rcases List.mem_cons.mp hp with rfl | hp
  · refine ⟨hS, Nat.ne_of_gt hLlt, ?_⟩
    cases hq : h₀.get? s.heap.objs.size with
    | none => rfl
    | some o' => exact absurd (Heap.lt_size (F.keep _ _ hq)) (Nat.lt_irrefl _)
  · exact ⟨hk _ _ (Heap.lt_size (N p hp).1) (N p hp).1, (N p hp).2.1, (N p hp).2.2⟩
end
end Mine
end
section
open PySem PySem.W PyProof.Rows
namespace Mine
open_top hd03 for PySem.Challenge.rw_ui0505_03
end Mine
end
section
open PySem PySem.W PyProof.Rows PyProof.V PySem.Spec
namespace Mine
def goodB (ks : List Int) : Bool := (List.range ks.length).all fun i => fitOk (ks.take i) && addOk (ks.take i) (ks.getD i 0)
theorem goods : all8.all goodB = true := by decide +kernel
theorem good_of {xs : List (Int × Addr)} (h8 : xs.map (·.1) ∈ all8) : ∀ i p, xs[i]? = some p → fitOk ((xs.take i).map (·.1)) = true ∧ addOk ((xs.take i).map (·.1)) p.1 = true := by
  intro i p hp
  have h := List.all_eq_true.mp goods _ h8
  have hi : i < xs.length := (List.getElem?_eq_some_iff.mp hp).1
  have h2 := List.all_eq_true.mp h i (List.mem_range.mpr (by simpa using hi))
  simp only [Bool.and_eq_true] at h2
  have e : (xs.map (·.1)).getD i 0 = p.1 := by
    rw [List.getD_eq_getElem?_getD, List.getElem?_map, hp]; rfl
  rw [e, ← List.map_take] at h2
  exact h2
/-- behind the first statement -/
def Mid3 (h₀ : Heap) (L : Addr) (base : List (Addr × Obj)) (s₀ : Shared) (fl : Flow) (s' : Shared) : Prop :=
  fl = .next ∧ ∃ (D : Addr) (l : List (Int × Addr)) (ep : Nat) (led : Bool) (a0 a1 a2 : Addr) (o0 o1 o2 : Obj) (h' : Heap) (tk' : Nat) (m' : Str → Option Value),
    s' = { s₀ with heap := h', toks := tk' } ∧ Fr h₀ L h' m' ∧ m' (Str.ofString "rows") = some (.ref D) ∧ News h₀ L h' ((D, set3 l ep led) :: (a0, o0) :: (a1, o1) :: (a2, o2) :: base) ∧ RowsIn [(a0, o0), (a1, o1), (a2, o2)] l
theorem execs_mid3 {M : Model} {A : Around} {E : Value → Shared → Prop} {s : Shared} {env : Env} {st : Stmt} {rest : List Stmt} {Q : Flow → Shared → Prop} {h₀ : Heap} {L : Addr} {m : Str → Option Value} {base : List (Addr × Obj)} (_F : Fr h₀ L s.heap m) (_N : News h₀ L s.heap base)
    (h1 : wpAny M A (exec st env) (Mid3 h₀ L base s) E s) (h2 : ∀ s', Mid3 h₀ L base s .next s' → wpAny M A (execs rest env) Q E s') : wpAny M A (execs (st :: rest) env) Q E s := by
  refine wpAny_execs_cons (wpAny_mono h1 (fun f s' h => ?_) fun _ _ x => x)
  obtain rfl := h.1
  exact h2 s' h
theorem three_of {ledg : List (Addr × Obj)} {l : List (Int × Addr)} (hl : RowsIn ledg l) {d : Addr × Obj} (hd : d ∈ ledg) : ∃ q0 q1 q2, q0 ∈ ledg ∧ q1 ∈ ledg ∧ q2 ∈ ledg ∧ RowsIn [q0, q1, q2] l := by
  have h3 : l.length ≤ 3 := by
    have : ∀ ks ∈ all8, ks.length ≤ 3 := by decide
    simpa using this _ hl.1
  obtain ⟨h8, hm⟩ := hl
  match l, h3, h8, hm with
  | [], _, h8, _ => exact ⟨d, d, d, hd, hd, hd, h8, fun _ h => nomatch h⟩
  | [x], _, h8, hm =>
    obtain ⟨t, n, hx⟩ := hm x (by simp)
    refine ⟨_, d, d, hx, hd, hd, h8, fun p hp => ?_⟩
    rw [List.mem_singleton.mp hp]
    exact ⟨t, n, by simp⟩
  | [x, y], _, h8, hm =>
    obtain ⟨t, n, hx⟩ := hm x (by simp)
    obtain ⟨t', n', hy⟩ := hm y (by simp)
    refine ⟨_, _, d, hx, hy, hd, h8, fun p hp => ?_⟩
    rcases List.mem_cons.mp hp with rfl | hp
    · exact ⟨t, n, by simp⟩
    · rw [List.mem_singleton.mp hp]
      exact ⟨t', n', by simp⟩
  | [x, y, z], _, h8, hm =>
    obtain ⟨t, n, hx⟩ := hm x (by simp)
    obtain ⟨t', n', hy⟩ := hm y (by simp)
    obtain ⟨t2, n2, hz⟩ := hm z (by simp)
    refine ⟨_, _, _, hx, hy, hz, h8, fun p hp => ?_⟩
    rcases List.mem_cons.mp hp with rfl | hp
    · exact ⟨t, n, by simp⟩
    · rcases List.mem_cons.mp hp with rfl | hp
      · exact ⟨t', n', by simp⟩
      · rw [List.mem_singleton.mp hp]
        exact ⟨t2, n2, by simp⟩
theorem mid3_of {h₀ h' : Heap} {L D : Addr} {base ledg : List (Addr × Obj)} {s₀ : Shared} {l : List (Int × Addr)} {ep tk' : Nat} {led : Bool} {m' : Str → Option Value} (F : Fr h₀ L h' m') (hrow : m' (Str.ofString "rows") = some (.ref D)) (N : News h₀ L h' ledg)
    (hD : (D, set3 l ep led) ∈ ledg) (hb : ∀ p ∈ base, p ∈ ledg) (hl : RowsIn ledg l) : Mid3 h₀ L base s₀ .next { s₀ with heap := h', toks := tk' } := by
  obtain ⟨⟨a0, o0⟩, ⟨a1, o1⟩, ⟨a2, o2⟩, h0, h1, h2, hr⟩ := three_of hl hD
  refine ⟨rfl, D, l, ep, led, a0, a1, a2, o0, o1, o2, h', tk', m', rfl, F, hrow, fun p hp => N p ?_, hr⟩
  simp only [List.mem_cons] at hp
  rcases hp with rfl | rfl | rfl | rfl | hp
  · exact hD
  · exact h0
  · exact h1
  · exact h2
  · exact hb p hp
theorem rows_of {m : Str → Option Value} {v : Value} (h1 : m (Str.ofString "rows") = some v) : m = fun y => if y = Str.ofString "rows" then some v else m y := by
  funext y
  by_cases h : y = Str.ofString "rows"
  · simp [h, h1]
  · simp [h]
theorem set3V {prog : Program} {w : World} {A : Around} {E : Value → Shared → Prop} {s : Shared} {h₀ : Heap} {L lst : Addr} {m : Str → Option Value} {news : List (Addr × Obj)} {vs : List Value} {e : Nat} {Q : Value → Shared → Prop} (F : Fr h₀ L s.heap m) (N : News h₀ L s.heap news) (hh : A.handled = none) (hl : (lst, listOf vs.toArray e) ∈ news) (hu : A.units + 64 < cLine)
    (hx : ∃ xs : List (Int × Addr), vs = (xs.map fun p => Value.ref p.2) ∧ RowsIn news xs)
    (h : ∀ D h' tk ep led xs, Fr h₀ L h' m → News h₀ L h' ((D, set3 xs ep led) :: news) → (∀ p ∈ news, p.1 < D) → RowsIn news xs → Q (.ref D) { s with heap := h', toks := tk }) : wpAny (model prog w) A (call (.type "set") [.ref lst]) Q E s := by
  obtain ⟨xs, rfl, hr⟩ := hx
  have h3 : xs.length ≤ 3 := by
    have : ∀ ks ∈ all8, ks.length ≤ 3 := by decide
    simpa using this _ hr.1
  exact set3K F N hh hl (good_of hr.1) hr.2 hu (by rw [PySem.sizeLine_eq]; omega) fun D h' tk led F' N' l1 => h D h' tk _ led xs F' N' l1 hr
theorem rows_cons {news : List (Addr × Obj)} {l : List (Int × Addr)} {x : Addr × Obj} (h : RowsIn news l) : RowsIn (x :: news) l :=
  ⟨h.1, fun p hp => let ⟨t, n, hm⟩ := h.2 p hp; ⟨t, n, List.mem_cons_of_mem _ hm⟩⟩
theorem rows_app {news base : List (Addr × Obj)} {l : List (Int × Addr)} (h : RowsIn news l) : RowsIn (news ++ base) l :=
  ⟨h.1, fun p hp => let ⟨t, n, hm⟩ := h.2 p hp; ⟨t, n, List.mem_append.mpr (.inl hm)⟩⟩
theorem mod_is3 {prog : Program} {w : World} {A : Around} {E : Value → Shared → Prop} {s : Shared} {a b k : Int} {t u : Tok} {Q : Value → Shared → Prop} (h : Int.fmod a b = k) (hb : b ≠ 0) (hQ : Q (.int k s.toks) { s with toks := s.toks + 1 }) : wpAny (model prog w) A (binaryOp .Mod (.int a t) (.int b u)) Q E s :=
  mod_int' hb (by rw [h]; exact hQ)
end Mine
end
section
open PySem PySem.W PyProof.Rows PyProof.V PySem.Spec
namespace Mine
/-- the tuple lies in the ledger -/
def SrcTp (ax : Addr) (its : Array Value) (news : List (Addr × Obj)) : Prop := False ∨ ∃ o, (ax, o) ∈ news ∧ o.cls = .type "tuple" ∧ ∃ n, o.data = .seq its n
/-- a comprehension's source that is a made tuple -/
def TupSrc (prog : Program) (w : World) (A : Around) (h₀ : Heap) (L : Addr) (m : Str → Option Value) (env : Env) (elt : PySem.Expr) (x : Str) (scope : Scope) (cl : List (Str × Addr)) (Fin : Shared → List Value → List (Addr × Obj) → Prop) (xv : Value) (s₁ : Shared) : Prop :=
  ∃ ax its news, xv = .ref ax ∧ A.handled = none ∧ Fr h₀ L s₁.heap m ∧ News h₀ L s₁.heap news ∧ SrcTp ax its news ∧ its.size ≤ sizeLine ∧
    ∀ g, LCg.CompRest prog w A h₀ L m env elt x scope cl { s₁ with heap := g } (SrcTp ax its) (fun i v => its[i]? = some v) (Fin { s₁ with heap := g }) its.size 0 [] news
section
variable {prog : Program} {w : World} {A : Around} {E : Value → Shared → Prop} {s : Shared} {h₀ : Heap} {L : Addr} {m : Str → Option Value} {env : Env}
theorem SrcTp.tup {h : Heap} {ax : Addr} {its : Array Value} {news : List (Addr × Obj)} (x : SrcTp ax its news) (N : News h₀ L h news) : IsTup h ax its := by
  rcases x with x | ⟨o, hm, r⟩
  · exact x.elim
  · exact ⟨o, N.get hm, r⟩
theorem tupSrc_intro {elt : PySem.Expr} {x : Str} {scope : Scope} {cl : List (Str × Addr)} {Fin : Shared → List Value → List (Addr × Obj) → Prop} {ax : Addr} {vs : List Value} {k : Nat} {news : List (Addr × Obj)} {s₁ : Shared}
    (hh : A.handled = none) (F : Fr h₀ L s₁.heap m) (N : News h₀ L s₁.heap news) (hm : (ax, tupO vs k) ∈ news) (hsz : vs.toArray.size ≤ sizeLine)
    (h : ∀ g, LCg.CompRest prog w A h₀ L m env elt x scope cl { s₁ with heap := g } (SrcTp ax vs.toArray) (fun i v => vs.toArray[i]? = some v) (Fin { s₁ with heap := g }) vs.toArray.size 0 [] news) :
    TupSrc prog w A h₀ L m env elt x scope cl Fin (.ref ax) s₁ := ⟨ax, vs.toArray, news, rfl, hh, F, N, .inr ⟨_, hm, rfl, _, rfl⟩, hsz, h⟩
theorem ListComp_Tp {elt iter : PySem.Expr} {x : Str} {px : Pos} {scope : Scope} {cl : List (Str × Addr)} {pos : Pos} {Q : Value → Shared → Prop} (_F₀ : Fr h₀ L s.heap m)
    (hclos : closureFor scope env = pure cl) (hcell : ∀ y ∈ scope.names, y.2 ≠ .cell) (hkind : scope.kind = .function)
    (hnames : ∀ y ∈ scope.names, y.2 = .local → scope.names.lookup y.1 = some .local) (hx : scope.names.lookup x = some .local)
    (h : wpAny (model prog w) A (eval iter env) (TupSrc prog w A h₀ L m env elt x scope cl (fun s₂ => LCg.FinE h₀ L m s₂ Q)) E s)
    (hs : ∀ x, foldedSetIterable iter env x = pure x := by intro _; rfl) :
    wpAny (model prog w) A (eval (.ListComp elt [⟨.Name x px, iter, [], 0⟩] scope pos) env) Q E s := by
  rw [eval_ListComp]
  refine wpAny_comprehension_free (use := none) rfl hs hclos hkind hnames (wpAny_mono h (fun xv s₁ h₁ => ?_) fun _ _ e => e)
  obtain ⟨ax, its, news, rfl, hh, F, N, S, hsz, R⟩ := h₁
  have hl : s₁.heap.IsTuple ax its := S.tup N
  have hlt : ax < s₁.heap.objs.size := by obtain ⟨_, e, _⟩ := hl; exact Heap.lt_size e
  refine wpAny_pyIter_tuple hl ?_
  have up : ∀ b o, s₁.heap.get? b = some o → (s₁.heap.push { cls := .type "tuple_iterator", data := .fields #[.ref ax, .int 0 0] }).get? b = some o := fun b o e => Heap.get?_push_of_some _ e
  refine LCg.block_U (Walks.tuple hh s₁.heap.objs.size ax (Nat.ne_of_lt hlt) its) hsz (fun i h st => by obtain ⟨o, e, _⟩ := st.1; exact ⟨o, e⟩) (S := SrcTp ax its) (fun i h h' o nw st e e' _ N' S' => ⟨by obtain ⟨o', q, r⟩ := st.1; rw [e] at q; cases q; exact ⟨o, e', r⟩, S'.tup N'⟩) hcell hkind hx
    ⟨⟨_, Heap.get?_push_size _ rfl, rfl, rfl⟩, IsTup.keeps hl up⟩ (fun b hb => ?_)
    (F.keeps up) (N.grown up) (Nat.ne_of_lt F.ns.lt) (next_is_new F) (fun p hp => Nat.ne_of_lt (Heap.lt_size (N p hp).1)) S (R _) ?_
  · show b < (s₁.heap.push _).objs.size
    rw [Heap.size_push]
    rcases List.mem_cons.mp hb with rfl | hb
    · exact Nat.lt_succ_self _
    · rw [List.mem_singleton.mp hb]; exact Nat.lt_succ_of_lt hlt
  · intro D C h tk m' ys news' F' N' o1 hn hC₀ hD₀ hCL hDL hCD offC fin
    refine ⟨m', hn, fun h'' hs'' => fin D h'' tk (F'.change hs'' hCL hC₀) (fun p hp => ?_) o1⟩
    refine ⟨hs''.extBut _ _ ?_ (N' p hp).1, (N' p hp).2⟩
    rcases List.mem_cons.mp hp with rfl | hp
    · exact Ne.symm hCD
    · exact offC p hp
end
end Mine
end
section
open PySem PySem.W PyProof.Rows PyProof.V PySem.Spec
namespace Mine
theorem tupItem {prog : Program} {w : World} {A : Around} {E : Value → Shared → Prop} {s : Shared} {h₀ : Heap} {L t : Addr} {news : List (Addr × Obj)} {vs : List Value} {n j : Nat} {k : Int} {u : Tok} {x : Value} {value slice : PySem.Expr} {Q : Value → Shared → Prop} (N : News h₀ L s.heap news) (hm : (t, tupO vs n) ∈ news)
    (hlo : -(2 ^ 63) ≤ k) (hhi : k < 2 ^ 63) (hj : seqIndex? k vs.length = some j) (hx : vs[j]? = some x) (h : Q x s)
    (hs : subscripted slice false (.ref t) (.int k u) = operate [.ref t, .int k u] (getItem (.ref t) (.int k u))) (hg : ∀ r, letTemporaryGo value (.ref t) r = pure ()) :
    wpAny (model prog w) A (subscriptTail value slice (.ref t) (.int k u)) Q E s :=
  item_tupleL ⟨_, N.get hm, rfl, _, rfl⟩ hlo hhi hj hx h hs hg
theorem notinx {prog : Program} {w : World} {A : Around} {E : Value → Shared → Prop} {s : Shared} {d : Addr} {D : List (PyData × PyData)} {x : Str} {t : Tok} {dv : PyData} {Q : Value → Shared → Prop} (T : StrTab prog w s.heap d D) (hl : lookup (.str x) D = some dv) (h : Q (.bool false) { s with toks := s.toks + 1 }) :
    wpAny (model prog w) A (compareOp .NotIn (.str x t) (.ref d)) Q E s := notin_strTab T (by rw [hl]; exact h)
theorem itemx {prog : Program} {w : World} {A : Around} {E : Value → Shared → Prop} {s : Shared} {d : Addr} {D : List (PyData × PyData)} {value slice : PySem.Expr} {x : Str} {t : Tok} {dv : PyData} {Q : Value → Shared → Prop} (T : StrTab prog w s.heap d D) (hl : lookup (.str x) D = some dv)
    (h : ∀ v, Flat v dv → Q v { s with toks := s.toks + 1 })
    (hs : subscripted slice false (.ref d) (.str x t) = operate [.ref d, .str x t] (getItem (.ref d) (.str x t))) (hg : ∀ r, letTemporaryGo value (.ref d) r = pure ()) :
    wpAny (model prog w) A (subscriptTail value slice (.ref d) (.str x t)) Q E s := item_strTab T hl h hs hg
theorem in3M {prog : Program} {w : World} {A : Around} {E : Value → Shared → Prop} {s : Shared} {h₀ : Heap} {L S a a0 a1 a2 : Addr} {o0 o1 o2 : Obj} {news : List (Addr × Obj)} {l : List (Int × Addr)} {ep n : Nat} {led : Bool} {k : Int} {t : Tok} {Q : Value → Shared → Prop} (N : News h₀ L s.heap news) (hS : (S, set3 l ep led) ∈ news) (hl : RowsIn [(a0, o0), (a1, o1), (a2, o2)] l)
    (m0 : (a0, o0) ∈ news) (m1 : (a1, o1) ∈ news) (m2 : (a2, o2) ∈ news) (hk3 : 0 ≤ k ∧ k < 3) (ha : (a, tupO [.int k t] n) ∈ news) (hu : A.units + 8 < cLine)
    (h : Q (.bool (decide (k ∈ l.map (·.1)))) { s with toks := s.toks + 2 }) : wpAny (model prog w) A (compareOp .In (.ref a) (.ref S)) Q E s :=
  in3K N hS ⟨hl.1, fun p hp => let ⟨t, n, hm⟩ := hl.2 p hp; ⟨t, n, by
    simp only [List.mem_cons, List.not_mem_nil, or_false] at hm
    rcases hm with e | e | e
    · rw [e]; exact m0
    · rw [e]; exact m1
    · rw [e]; exact m2⟩⟩ hk3 ha hu h
theorem one_itemA {prog : Program} {w : World} {A : Around} {E : Value → Shared → Prop} {s : Shared} {h₀ : Heap} {L d a b : Addr} {news : List (Addr × Obj)} {o : Obj} {v : Value} {t u t' u' : Tok} {n n' : Nat} {value slice : PySem.Expr} {Q : Value → Shared → Prop} (N : News h₀ L s.heap news) (hd : (d, o) ∈ news) (ho : OneObj prog w o a v) (hk : (a, tupO [.str (Str.ofString "P") t, .int 1 u] n) ∈ news) (hb : (b, tupO [.str (Str.ofString "P") t', .int 1 u'] n') ∈ news)
    (hu : A.units + 1 < cLine) (h : Q v { s with toks := s.toks + 3 })
    (hs : subscripted slice false (.ref d) (.ref b) = operate [.ref d, .ref b] (getItem (.ref d) (.ref b))) :
    wpAny (model prog w) A (subscriptTail value slice (.ref d) (.ref b)) Q E s :=
  tail_any (one_of N hd ho hk).typeIs slot_dict_getitem.lookup (wpAny_getItem_heap (knd := pkind prog w) (k := PK) (p := (a, v)) hu (pkey N hb) (one_of N hd ho hk) rfl h) hs
local macro_rules | `(tactic| k_mem) => `(tactic| first | exact List.mem_cons_self | assumption | (refine List.mem_cons_of_mem _ ?_; k_mem))
local macro_rules | `(tactic| walk_at "exec If") => `(tactic| (with_reducible refine wpAny_If ?_))
local macro_rules | `(tactic| walk_at "eval Dict cons cons") => `(tactic| (k_here; (with_reducible show wpAny _ _ (eval (PySem.Expr.Dict [some (PySem.Expr.Tuple _ _ _)] _ _) _) _ _ _); k_dflt (refine' one_dispK ?F ?N ?b ?a ?l ?e ?n ?u ?_; (case F => k_asm); (case N => k_asm); (case b => exact Top.nolimit (by k_asm)); (case a => rfl); (case l => rfl); (case e => exact List.cons_ne_nil _ _); (case n => exact Nat.le_of_ble_eq_true rfl); (case u => first | decide | ktr_units | units_room)); intro d' h' F' N' l1 lo'; (try k_lt l1)))
local macro_rules | `(tactic| walk_at "call type:dict") => `(tactic| (k_here; k_dflt (refine' one_copyK ?F ?N ?b ?S ?d ?o ?k ?_; (case F => k_asm); (case N => k_asm); (case b => exact Top.nolimit (by k_asm)); (case o => assumption); (case d => k_mem); (case S => assumption); (case k => k_mem)); intro d' h' o' F' N' l1 lo' ho'; (try k_lt l1)))
local macro_rules | `(tactic| walk_at "truthy ref") => `(tactic| (k_here; (with_reducible show wpAny _ _ (truthy (Value.ref _)) _ _ _); k_dflt (refine' one_truthK ?N ?S ?d ?o ?k ?_; (case N => k_asm); (case o => assumption); (case d => k_mem); (case S => assumption); (case k => k_mem))))
local macro_rules | `(tactic| walk_at "compareOp NotIn ref ref") => `(tactic| (k_here; (with_reducible show wpAny _ _ (compareOp CmpOp.NotIn (Value.ref _) (Value.ref _)) _ _ _); k_dflt (refine' one_notin ?N ?S ?d ?o ?k ?b ?u ?_; (case N => k_asm); (case o => assumption); (case d => k_mem); (case S => assumption); (case k => k_mem); (case b => k_mem); (case u => first | decide | ktr_units | units_room))))
local macro_rules | `(tactic| walk_at "call ref") => `(tactic| (k_here; k_dflt (refine wpAny_call ?_; k_enter)))
local macro_rules | `(tactic| walk_at "subscriptTail Name Constant ref int") => `(tactic| (k_here; (with_reducible show wpAny _ _ (subscriptTail (PySem.Expr.Name (Str.ofString "f") _) _ (Value.ref _) (Value.int _ _)) _ _ _); k_dflt (refine' tupItem ?N ?m ?l ?h ?j ?x ?_ ?hs ?hg; (case N => k_asm); (case m => k_mem); (case l => decide); (case h => decide); (case j => rfl); (case x => rfl); (case hs => with_unfolding_all rfl); (case hg => (intro _; with_unfolding_all rfl)))))
local macro_rules | `(tactic| walk_at "subscriptTail Name Constant ref int") => `(tactic| (k_here; (with_reducible show wpAny _ _ (subscriptTail (PySem.Expr.Name (Str.ofString "term") _) _ (Value.ref _) (Value.int _ _)) _ _ _); k_dflt (refine' tupItem ?N ?m ?l ?h ?j ?x ?_ ?hs ?hg; (case N => k_asm); (case m => k_mem); (case l => decide); (case h => decide); (case j => rfl); (case x => rfl); (case hs => with_unfolding_all rfl); (case hg => (intro _; with_unfolding_all rfl)))))
local macro_rules | `(tactic| walk_at "eval ListComp") => `(tactic| (k_here; lcf_look; k_dflt (refine ListComp_Tp (by k_asm) (by with_unfolding_all rfl) (by decide) (by rfl) (by decide) (by rfl) ?_)))
local macro_rules | `(tactic| walk_at "compareOp NotIn str ref") => `(tactic| (k_here; k_dflt (refine' notinx ?T ?l ?_; (case T => k_tabat); (case l => rfl))))
local macro_rules | `(tactic| walk_at "subscriptTail Name Subscript ref str") => `(tactic| (k_here; k_dflt (refine' itemx ?T ?l ?_ ?hs ?hg; (case T => k_tabat); (case l => rfl); (case hs => with_unfolding_all rfl); (case hg => (intro _; with_unfolding_all rfl))); intro _ hv'; dict_open hv'))
local macro_rules | `(tactic| walk_at "CompRest") => `(tactic| (with_unfolding_all first
  | (refine LCg.CompRest.succ ?_; intro v' I' oI' C' oC' D' m' h' tk' E' hv' hC' hx' F' N' off' ne'; lcg_open hv')
  | refine LCg.CompRest.zero ?_))
local macro_rules | `(tactic| walk_at "mine0") => `(tactic| ((with_reducible show OneMade _ _ _ _ _ _); (refine' one_made ?F ?N ?U ?k ?_; (case F => k_asm); (case N => k_asm); (case U => k_updF); (case k => k_mem)); intro h' o' F' N' ho'; (try dsimp only at N')))
local macro_rules | `(tactic| walk_at "mine1") => `(tactic| ((with_reducible show TupSrc _ _ _ _ _ _ _ _ _ _ _ _ _ _); (k_dflt (refine' tupSrc_intro ?hh ?F ?N ?m ?z ?_; (case hh => rfl); (case F => k_asm); (case N => k_asm); (case m => k_mem); (case z => first | size_fits | exact Nat.le_of_ble_eq_true rfl))); intro g'; lcg_lit))
local macro_rules | `(tactic| walk_at "mine2") => `(tactic| ((with_reducible show LCg.CompEnd _ _ _ _ _ _ _ _ _ _ _ _ _ _); (k_dflt (refine' LCg.CompEnd.intro ?F ?N _ ?sub ?off ?src ?_; (case F => k_asm); (case N => k_asm); (case off => assumption); (case sub => (intro p9 hp9; repeat (first | exact hp9 | refine List.mem_cons_of_mem _ ?_))); (case src => lcg_src)))))
local macro_rules | `(tactic| walk_at "compareOp In ref ref") => `(tactic| (k_here; k_dflt (refine' in3M ?N ?S ?R ?m0 ?m1 ?m2 ?k ?a ?u ?_; (case N => k_asm); (case R => assumption); (case S => k_mem); (case m0 => k_mem); (case m1 => k_mem); (case m2 => k_mem); (case a => k_mem); (case k => exact ⟨Int.fmod_nonneg_of_pos _ (by decide), Int.fmod_lt_of_pos _ (by decide)⟩); (case u => first | decide | ktr_units | units_room))))
local macro_rules | `(tactic| walk_at "subscriptTail Attribute Name Name ref ref") => `(tactic| (k_here; k_dflt (refine' one_itemA ?N ?d ?o ?k ?b ?u ?_ ?hs; (case N => k_asm); (case o => assumption); (case d => k_mem); (case k => k_mem); (case b => k_mem); (case u => first | decide | ktr_units | units_room); (case hs => with_unfolding_all rfl))))
/-- given: one name and its thing -/
def GivenIs (prog : Program) (w : World) (news : List (Addr × Obj)) (g : Addr) (k : Int) : Prop := ∃ (o : Obj) (t u : Tok), (g == sysModules) = false ∧ (g, o) ∈ news ∧ Obj.IsDictOf (PySem.strKind prog w) o (strPairs [(Value.str (Str.ofString "x") t, Value.int k u)]) ∧ FlatPairs PyData.str (strPairs [(Value.str (Str.ofString "x") t, Value.int k u)]) (strData [(Value.str (Str.ofString "x") t, Value.int k u)])
theorem term_ok (w : World) (p : Program) (loose : List Str) (mean : ExcName → Option Value) (mg mb : Str → Option Value) :
    ∀ (dp un : Nat) (gd : Option (List Code)) (cn : Str) (cs : Scope) (a : Addr) (ccd : Value) (cl : List (Str × Addr)) (outer : List Env) (A₀ : Around) (base h₀ : Heap) (L : Addr) (m : Str → Option Value) (news : List (Addr × Obj)) (s : Shared) (mo t g : Addr) (k : Int) (t1 t2 : Tok) (n : Nat) (Q E : Value → Shared → Prop),
      Below A₀ base outer h₀ → Fr h₀ L s.heap m → (hd03.heap_39 w.params).In h₀ → News h₀ L s.heap news → Top p loose mean mg mb h₀ → cs.kind = .function → dp + 20 < recursionLimit → un + 160 < cLine →
      (t, tupO [.str (Str.ofString "var") t1, .str (Str.ofString "x") t2] n) ∈ news → GivenIs PySem.Challenge.rw_ui0505_03.row.prog w news g k →
      (∀ h' tk' u, Fr h₀ L h' m → News h₀ L h' news → Q (.int k u) { s with heap := h', toks := tk' }) →
      wpAny (model PySem.Challenge.rw_ui0505_03.row.prog w) (ktrTop dp un gd cn cs L a ccd cl outer) (call (.ref 54) [.ref mo, .ref t, .ref g]) Q E s := by
  k_fill
  k_with_none
  intro dp un gd cn cs a ccd cl outer A₀ base h₀ L m news s mo t g k t1 t2 n Q E B F X N T hk hd hu ht hg hret
  obtain ⟨og, tg, ug, hg0, hg1, hg2, hg3⟩ := hg
  refine wpAny_call ?_
  k_dflt (refine' code_defC ?k1 ?k2 ?k3 ?k4 ?k5 ?kA ?kF ?kK ?k6 ?k7 ?k8 ?k9 ?kB ?kD ?_ ?c2 ?c3 ?c4; (case kA => exact rfl); (case kF => exact rfl); (case kK => assumption); (case k1 => k_asm); (case k2 => k_asm); (case k3 => k_asm); (case k4 => k_asm); (case k5 => k_asm); (case k6 => k_is); (case k7 => k_is); (case k8 => ktr_room); (case k9 => first | exact BindsTo.of_eq rfl | exact binds_K (by k_in) rfl (by k_is) rfl rfl rfl); (case kB => exact rfl); (case kD => decide +kernel); (case c2 => exact rfl); (case c3 => exact rfl); (case c4 => exact rfl); k_whole; intro g' L' h' tk' cells' FG' F' N' Y' B' X' T' l1; (try k_lt l1); k_cells Y'; (try simp only [List.cons_append, List.nil_append] at N'); (try dsimp only); (try k_fold))
  clear F N
  repeat' (first | walk_at "mine0" | walk_at "mine1" | walk_at "mine2" | (k_unfold; (try dsimp only)) | walk1 | (dsimp only; walk1) | (leave1; walk_say "STEP leave1"; try dsimp only))
  rename Fr h₀ L _ _ => F9
  rename News h₀ L _ _ => N9
  exact hret _ _ _ F9 fun q hq => N9 q (List.mem_cons_of_mem _ (List.mem_cons_of_mem _ hq))
/-- the formulas that the law asks of -/
inductive Fk
  | atm
  | eq
  | no (f : Fk)
  | and (f g : Fk)
def Fk.ev (b : Bool) : Fk → Bool
  | .atm => b
  | .eq => true
  | .no f => !f.ev b
  | .and f g => f.ev b && g.ev b
def Fk.size : Fk → Nat
  | .atm => 1
  | .eq => 1
  | .no f => f.size + 1
  | .and f g => f.size + g.size + 1
inductive FIs (news : List (Addr × Obj)) : Value → Fk → Prop
  | atm {a ts v : Addr} {t u t1 t2 : Tok} {n n' n'' : Nat} : (a, tupO [.str (Str.ofString "atom") t, .str (Str.ofString "P") u, .ref ts] n) ∈ news → (ts, tupO [.ref v] n') ∈ news → (v, tupO [.str (Str.ofString "var") t1, .str (Str.ofString "x") t2] n'') ∈ news → FIs news (.ref a) .atm
  | eq {a v v' : Addr} {t t1 t2 t3 t4 : Tok} {n n' n'' : Nat} : (a, tupO [.str (Str.ofString "eq") t, .ref v, .ref v'] n) ∈ news → (v, tupO [.str (Str.ofString "var") t1, .str (Str.ofString "x") t2] n') ∈ news → (v', tupO [.str (Str.ofString "var") t3, .str (Str.ofString "x") t4] n'') ∈ news → FIs news (.ref a) .eq
  | no {a : Addr} {t : Tok} {n : Nat} {x : Value} {f : Fk} : (a, tupO [.str (Str.ofString "not") t, x] n) ∈ news → FIs news x f → FIs news (.ref a) (.no f)
  | and {a : Addr} {t : Tok} {n : Nat} {x y : Value} {f g : Fk} : (a, tupO [.str (Str.ofString "and") t, x, y] n) ∈ news → FIs news x f → FIs news y g → FIs news (.ref a) (.and f g)
theorem FIs.mono {l l' : List (Addr × Obj)} {v : Value} {f : Fk} (x : FIs l v f) (h : ∀ q ∈ l, q ∈ l') : FIs l' v f := by
  induction x with
  | atm h1 h2 h3 => exact .atm (h _ h1) (h _ h2) (h _ h3)
  | eq h1 h2 h3 => exact .eq (h _ h1) (h _ h2) (h _ h3)
  | no h1 _ ih => exact .no (h _ h1) ih
  | and h1 _ _ i1 i2 => exact .and (h _ h1) i1 i2
theorem GivenIs.mono {prog : Program} {w : World} {l l' : List (Addr × Obj)} {g : Addr} {k : Int} (x : GivenIs prog w l g k) (h : ∀ q ∈ l, q ∈ l') : GivenIs prog w l' g k :=
  let ⟨o, t, u, h0, h1, h2⟩ := x; ⟨o, t, u, h0, h _ h1, h2⟩
/-- the model's objects -/
structure MdlIs (prog : Program) (w : World) (news : List (Addr × Obj)) (mo md rd fd key S : Addr) (od : Obj) (t1 t2 t3 t4 t5 t6 : Tok) (n ep : Nat) (led : Bool) (l : List (Int × Addr)) : Prop where
  hmo : (mo, instObj 84 md) ∈ news
  hmd : (md, dictOf [⟨PyData.keyHash w.params (Str.ofString "size"), .str (Str.ofString "size") t1, .int 3 t2⟩, ⟨PyData.keyHash w.params (Str.ofString "relations"), .str (Str.ofString "relations") t3, .ref rd⟩, ⟨PyData.keyHash w.params (Str.ofString "functions"), .str (Str.ofString "functions") t4, .ref fd⟩] 3) ∈ news
  hrd : (rd, od) ∈ news
  hone : OneObj prog w od key (.ref S)
  hsys : (rd == sysModules) = false
  hkey : (key, tupO [.str (Str.ofString "P") t5, .int 1 t6] n) ∈ news
  hset : (S, set3 l ep led) ∈ news
  hrows : RowsIn news l
theorem MdlIs.mono {prog : Program} {w : World} {news news' : List (Addr × Obj)} {mo md rd fd key S : Addr} {od : Obj} {t1 t2 t3 t4 t5 t6 : Tok} {n ep : Nat} {led : Bool} {l : List (Int × Addr)} (x : MdlIs prog w news mo md rd fd key S od t1 t2 t3 t4 t5 t6 n ep led l) (h : ∀ q ∈ news, q ∈ news') : MdlIs prog w news' mo md rd fd key S od t1 t2 t3 t4 t5 t6 n ep led l :=
  ⟨h _ x.hmo, h _ x.hmd, h _ x.hrd, x.hone, x.hsys, h _ x.hkey, h _ x.hset, x.hrows.1, fun p hp => let ⟨t, n, hm⟩ := x.hrows.2 p hp; ⟨t, n, h _ hm⟩⟩
theorem in3N {prog : Program} {w : World} {A : Around} {E : Value → Shared → Prop} {s : Shared} {h₀ : Heap} {L S a : Addr} {news₀ news : List (Addr × Obj)} {l : List (Int × Addr)} {ep n : Nat} {led : Bool} {k : Int} {t : Tok} {Q : Value → Shared → Prop} (N : News h₀ L s.heap news) (hS : (S, set3 l ep led) ∈ news) (hl : RowsIn news₀ l) (sub : ∀ q ∈ news₀, q ∈ news) (hk3 : 0 ≤ k ∧ k < 3) (ha : (a, tupO [.int k t] n) ∈ news) (hu : A.units + 8 < cLine)
    (h : Q (.bool (decide (k ∈ l.map (·.1)))) { s with toks := s.toks + 2 }) : wpAny (model prog w) A (compareOp .In (.ref a) (.ref S)) Q E s :=
  in3K N hS ⟨hl.1, fun p hp => let ⟨t, n, hm⟩ := hl.2 p hp; ⟨t, n, sub _ hm⟩⟩ hk3 ha hu h
def HoldsOk (w : World) (p : Program) (loose : List Str) (mean : ExcName → Option Value) (mg mb : Str → Option Value) (d : Fk) : Prop :=
    ∀ (dp un : Nat) (gd : Option (List Code)) (cn : Str) (cs : Scope) (a : Addr) (ccd : Value) (cl : List (Str × Addr)) (outer : List Env) (A₀ : Around) (base h₀ : Heap) (L : Addr) (m : Str → Option Value) (news : List (Addr × Obj)) (s : Shared) (mo md rd fd key S g : Addr) (od : Obj) (t1 t2 t3 t4 t5 t6 : Tok) (n ep : Nat) (led : Bool) (l : List (Int × Addr)) (k : Int) (fv : Value) (Q E : Value → Shared → Prop),
      Below A₀ base outer h₀ → Fr h₀ L s.heap m → (hd03.heap_39 w.params).In h₀ → News h₀ L s.heap news → Top p loose mean mg mb h₀ → cs.kind = .function → dp + 60 * d.size < recursionLimit → un + 400 * d.size < cLine →
      MdlIs PySem.Challenge.rw_ui0505_03.row.prog w news mo md rd fd key S od t1 t2 t3 t4 t5 t6 n ep led l → GivenIs PySem.Challenge.rw_ui0505_03.row.prog w news g k → 0 ≤ k ∧ k < 3 → FIs news fv d →
      (∀ h' tk', Fr h₀ L h' m → News h₀ L h' news → Q (.bool (d.ev (decide (k ∈ l.map (·.1))))) { s with heap := h', toks := tk' }) →
      wpAny (model PySem.Challenge.rw_ui0505_03.row.prog w) (ktrTop dp un gd cn cs L a ccd cl outer) (call (.ref 60) [.ref mo, fv, .ref g]) Q E s
local macro_rules | `(tactic| walk_at "compareOp In ref ref") => `(tactic| (k_here; k_dflt (refine' in3N ?N ?S ?R ?sub ?k ?a ?u ?_; (case N => k_asm); (case R => assumption); (case S => k_mem); (case sub => (intro p9 hp9; repeat (first | exact hp9 | refine List.mem_cons_of_mem _ ?_))); (case a => k_mem); (case k => assumption); (case u => first | decide | ktr_units | units_room))))
local macro_rules | `(tactic| walk_at "call ref") => `(tactic| (k_here; (with_reducible show wpAny _ _ (call (Value.ref 54) _) _ _ _); k_dflt (refine' term_ok _ _ _ _ _ _ _ _ _ _ _ _ _ _ _ _ _ _ _ _ _ _ _ _ _ _ _ _ _ _ _ ?B ?F ?X ?N ?T ?hk ?d ?u ?t ?g ?_; (case B => k_asm); (case F => k_asm); (case X => k_asm); (case N => k_asm); (case T => k_asm); (case hk => first | rfl | assumption); (case d => first | omega | ktr_room); (case u => first | omega | ktr_units); (case t => k_mem); (case g => (refine GivenIs.mono (by assumption) ?_; (intro p9 hp9; repeat (first | exact hp9 | refine List.mem_cons_of_mem _ ?_)))); intro h' tk' u' F' N'; (try dsimp only))))
theorem q_of {Q : Value → Shared → Prop} {v v' : Value} {s : Shared} (h : Q v s) (e : v = v') : Q v' s := e ▸ h
theorem holds_atm (w : World) (p : Program) (loose : List Str) (mean : ExcName → Option Value) (mg mb : Str → Option Value) : HoldsOk w p loose mean mg mb .atm := by
  unfold HoldsOk
  k_fill
  k_with_none
  intro dp un gd cn cs a ccd cl outer A₀ base h₀ L m news s mo md rd fd key S g od t1 t2 t3 t4 t5 t6 n ep led l k fv Q E B F X N T hk hd hu hM hg hk3 hF hret
  cases hF with
  | atm f1 f2 f3 =>
  have m1 := hM.hmo
  have m2 := hM.hmd
  have m3 := hM.hrd
  have m4 := hM.hone
  have m5 := hM.hsys
  have m6 := hM.hkey
  have m7 := hM.hset
  have m8 := hM.hrows
  simp only [Fk.size] at hd hu
  refine wpAny_call ?_
  k_dflt (refine' code_defC ?k1 ?k2 ?k3 ?k4 ?k5 ?kA ?kF ?kK ?k6 ?k7 ?k8 ?k9 ?kB ?kD ?_ ?c2 ?c3 ?c4; (case kA => exact rfl); (case kF => exact rfl); (case kK => assumption); (case k1 => k_asm); (case k2 => k_asm); (case k3 => k_asm); (case k4 => k_asm); (case k5 => k_asm); (case k6 => k_is); (case k7 => k_is); (case k8 => ktr_room); (case k9 => first | exact BindsTo.of_eq rfl | exact binds_K (by k_in) rfl (by k_is) rfl rfl rfl); (case kB => exact rfl); (case kD => decide +kernel); (case c2 => exact rfl); (case c3 => exact rfl); (case c4 => exact rfl); k_whole; intro g' L' h' tk' cells' FG' F' N' Y' B' X' T' l1; (try k_lt l1); k_cells Y'; (try simp only [List.cons_append, List.nil_append] at N'); (try dsimp only); (try k_fold))
  clear F N
  repeat' (first | walk_at "mine0" | walk_at "mine1" | walk_at "mine2" | (k_unfold; (try dsimp only)) | walk1 | (dsimp only; walk1) | (leave1; walk_say "STEP leave1"; try dsimp only))
  all_goals (
    rename Fr h₀ L _ _ => F9
    rename News h₀ L _ _ => N9
    refine q_of (hret _ _ F9 fun q hq => N9 q ?_) (by simp [Fk.ev, *])
    repeat (first | exact hq | refine List.mem_cons_of_mem _ ?_))
theorem holds_eq (w : World) (p : Program) (loose : List Str) (mean : ExcName → Option Value) (mg mb : Str → Option Value) : HoldsOk w p loose mean mg mb .eq := by
  unfold HoldsOk
  k_fill
  k_with_none
  intro dp un gd cn cs a ccd cl outer A₀ base h₀ L m news s mo md rd fd key S g od t1 t2 t3 t4 t5 t6 n ep led l k fv Q E B F X N T hk hd hu hM hg hk3 hF hret
  cases hF with
  | eq f1 f2 f3 =>
  have m1 := hM.hmo
  have m2 := hM.hmd
  have m3 := hM.hrd
  have m4 := hM.hone
  have m5 := hM.hsys
  have m6 := hM.hkey
  have m7 := hM.hset
  have m8 := hM.hrows
  simp only [Fk.size] at hd hu
  refine wpAny_call ?_
  k_dflt (refine' code_defC ?k1 ?k2 ?k3 ?k4 ?k5 ?kA ?kF ?kK ?k6 ?k7 ?k8 ?k9 ?kB ?kD ?_ ?c2 ?c3 ?c4; (case kA => exact rfl); (case kF => exact rfl); (case kK => assumption); (case k1 => k_asm); (case k2 => k_asm); (case k3 => k_asm); (case k4 => k_asm); (case k5 => k_asm); (case k6 => k_is); (case k7 => k_is); (case k8 => ktr_room); (case k9 => first | exact BindsTo.of_eq rfl | exact binds_K (by k_in) rfl (by k_is) rfl rfl rfl); (case kB => exact rfl); (case kD => decide +kernel); (case c2 => exact rfl); (case c3 => exact rfl); (case c4 => exact rfl); k_whole; intro g' L' h' tk' cells' FG' F' N' Y' B' X' T' l1; (try k_lt l1); k_cells Y'; (try simp only [List.cons_append, List.nil_append] at N'); (try dsimp only); (try k_fold))
  clear F N
  repeat' (first | walk_at "mine0" | walk_at "mine1" | walk_at "mine2" | (k_unfold; (try dsimp only)) | walk1 | (dsimp only; walk1) | (leave1; walk_say "STEP leave1"; try dsimp only))
  all_goals (
    rename Fr h₀ L _ _ => F9
    rename News h₀ L _ _ => N9
    refine q_of (hret _ _ F9 fun q hq => N9 q ?_) (by simp [Fk.ev, *])
    repeat (first | exact hq | refine List.mem_cons_of_mem _ ?_))
theorem holds_no (w : World) (p : Program) (loose : List Str) (mean : ExcName → Option Value) (mg mb : Str → Option Value) {f : Fk} (ih : HoldsOk w p loose mean mg mb f) : HoldsOk w p loose mean mg mb (.no f) := by
  unfold HoldsOk at *
  k_fill
  k_with_none
  k_with "call ref" => ((with_reducible show wpAny _ _ (call (Value.ref 60) _) _ _ _); (refine' ih _ _ _ _ _ _ _ _ _ _ _ _ _ _ _ _ _ _ _ _ _ _ _ _ _ _ _ _ _ _ _ _ _ _ _ _ _ _ ?B ?F ?X ?N ?T ?hk ?d ?u ?M ?g ?k3 ?f ?_; (case B => k_asm); (case F => k_asm); (case X => k_asm); (case N => k_asm); (case T => k_asm); (case hk => first | rfl | assumption); (case d => first | omega | ktr_room); (case u => first | omega | ktr_units); (case M => (refine MdlIs.mono (by assumption) ?_; (intro p9 hp9; repeat (first | exact hp9 | refine List.mem_cons_of_mem _ ?_)))); (case g => (refine GivenIs.mono (by assumption) ?_; (intro p9 hp9; repeat (first | exact hp9 | refine List.mem_cons_of_mem _ ?_)))); (case k3 => assumption); (case f => (refine FIs.mono (by assumption) ?_; (intro p9 hp9; repeat (first | exact hp9 | refine List.mem_cons_of_mem _ ?_)))); intro h' tk' F' N'; (try dsimp only)))
  intro dp un gd cn cs a ccd cl outer A₀ base h₀ L m news s mo md rd fd key S g od t1 t2 t3 t4 t5 t6 n ep led l k fv Q E B F X N T hk hd hu hM hg hk3 hF hret
  cases hF with
  | no f1 f2 =>
  have m1 := hM.hmo
  have m2 := hM.hmd
  have m3 := hM.hrd
  have m4 := hM.hone
  have m5 := hM.hsys
  have m6 := hM.hkey
  have m7 := hM.hset
  have m8 := hM.hrows
  simp only [Fk.size] at hd hu
  refine wpAny_call ?_
  k_dflt (refine' code_defC ?k1 ?k2 ?k3 ?k4 ?k5 ?kA ?kF ?kK ?k6 ?k7 ?k8 ?k9 ?kB ?kD ?_ ?c2 ?c3 ?c4; (case kA => exact rfl); (case kF => exact rfl); (case kK => assumption); (case k1 => k_asm); (case k2 => k_asm); (case k3 => k_asm); (case k4 => k_asm); (case k5 => k_asm); (case k6 => k_is); (case k7 => k_is); (case k8 => ktr_room); (case k9 => first | exact BindsTo.of_eq rfl | exact binds_K (by k_in) rfl (by k_is) rfl rfl rfl); (case kB => exact rfl); (case kD => decide +kernel); (case c2 => exact rfl); (case c3 => exact rfl); (case c4 => exact rfl); k_whole; intro g' L' h' tk' cells' FG' F' N' Y' B' X' T' l1; (try k_lt l1); k_cells Y'; (try simp only [List.cons_append, List.nil_append] at N'); (try dsimp only); (try k_fold))
  clear F N
  repeat' (first | walk_at "mine0" | walk_at "mine1" | walk_at "mine2" | (k_unfold; (try dsimp only)) | walk1 | (dsimp only; walk1) | (leave1; walk_say "STEP leave1"; try dsimp only))
  all_goals (
    rename Fr h₀ L _ _ => F9
    rename News h₀ L _ _ => N9
    refine q_of (hret _ _ F9 fun q hq => N9 q ?_) (by simp [Fk.ev, *])
    repeat (first | exact hq | refine List.mem_cons_of_mem _ ?_))
theorem holds_and (w : World) (p : Program) (loose : List Str) (mean : ExcName → Option Value) (mg mb : Str → Option Value) {f g : Fk} (ih1 : HoldsOk w p loose mean mg mb f) (ih2 : HoldsOk w p loose mean mg mb g) : HoldsOk w p loose mean mg mb (.and f g) := by
  unfold HoldsOk at *
  k_fill
  k_with_none
  k_with "call ref" => ((with_reducible show wpAny _ _ (call (Value.ref 60) _) _ _ _); first | (refine' ih1 _ _ _ _ _ _ _ _ _ _ _ _ _ _ _ _ _ _ _ _ _ _ _ _ _ _ _ _ _ _ _ _ _ _ _ _ _ _ ?B ?F ?X ?N ?T ?hk ?d ?u ?M ?g ?k3 ?f ?_; (case B => k_asm); (case F => k_asm); (case X => k_asm); (case N => k_asm); (case T => k_asm); (case hk => first | rfl | assumption); (case d => first | omega | ktr_room); (case u => first | omega | ktr_units); (case M => (refine MdlIs.mono (by assumption) ?_; (intro p9 hp9; repeat (first | exact hp9 | refine List.mem_cons_of_mem _ ?_)))); (case g => (refine GivenIs.mono (by assumption) ?_; (intro p9 hp9; repeat (first | exact hp9 | refine List.mem_cons_of_mem _ ?_)))); (case k3 => assumption); (case f => (refine FIs.mono (by assumption) ?_; (intro p9 hp9; repeat (first | exact hp9 | refine List.mem_cons_of_mem _ ?_)))); intro h' tk' F' N'; (try dsimp only)) | (refine' ih2 _ _ _ _ _ _ _ _ _ _ _ _ _ _ _ _ _ _ _ _ _ _ _ _ _ _ _ _ _ _ _ _ _ _ _ _ _ _ ?B ?F ?X ?N ?T ?hk ?d ?u ?M ?g ?k3 ?f ?_; (case B => k_asm); (case F => k_asm); (case X => k_asm); (case N => k_asm); (case T => k_asm); (case hk => first | rfl | assumption); (case d => first | omega | ktr_room); (case u => first | omega | ktr_units); (case M => (refine MdlIs.mono (by assumption) ?_; (intro p9 hp9; repeat (first | exact hp9 | refine List.mem_cons_of_mem _ ?_)))); (case g => (refine GivenIs.mono (by assumption) ?_; (intro p9 hp9; repeat (first | exact hp9 | refine List.mem_cons_of_mem _ ?_)))); (case k3 => assumption); (case f => (refine FIs.mono (by assumption) ?_; (intro p9 hp9; repeat (first | exact hp9 | refine List.mem_cons_of_mem _ ?_)))); intro h' tk' F' N'; (try dsimp only)))
  intro dp un gd cn cs a ccd cl outer A₀ base h₀ L m news s mo md rd fd key S g od t1 t2 t3 t4 t5 t6 n ep led l k fv Q E B F X N T hk hd hu hM hg hk3 hF hret
  cases hF with
  | and f1 f2 f3 =>
  have m1 := hM.hmo
  have m2 := hM.hmd
  have m3 := hM.hrd
  have m4 := hM.hone
  have m5 := hM.hsys
  have m6 := hM.hkey
  have m7 := hM.hset
  have m8 := hM.hrows
  simp only [Fk.size] at hd hu
  refine wpAny_call ?_
  k_dflt (refine' code_defC ?k1 ?k2 ?k3 ?k4 ?k5 ?kA ?kF ?kK ?k6 ?k7 ?k8 ?k9 ?kB ?kD ?_ ?c2 ?c3 ?c4; (case kA => exact rfl); (case kF => exact rfl); (case kK => assumption); (case k1 => k_asm); (case k2 => k_asm); (case k3 => k_asm); (case k4 => k_asm); (case k5 => k_asm); (case k6 => k_is); (case k7 => k_is); (case k8 => ktr_room); (case k9 => first | exact BindsTo.of_eq rfl | exact binds_K (by k_in) rfl (by k_is) rfl rfl rfl); (case kB => exact rfl); (case kD => decide +kernel); (case c2 => exact rfl); (case c3 => exact rfl); (case c4 => exact rfl); k_whole; intro g' L' h' tk' cells' FG' F' N' Y' B' X' T' l1; (try k_lt l1); k_cells Y'; (try simp only [List.cons_append, List.nil_append] at N'); (try dsimp only); (try k_fold))
  clear F N
  repeat' (first | walk_at "mine0" | walk_at "mine1" | walk_at "mine2" | (k_unfold; (try dsimp only)) | walk1 | (dsimp only; walk1) | (leave1; walk_say "STEP leave1"; try dsimp only))
  all_goals (
    rename Fr h₀ L _ _ => F9
    rename News h₀ L _ _ => N9
    refine q_of (hret _ _ F9 fun q hq => N9 q ?_) (by simp [Fk.ev, *])
    repeat (first | exact hq | refine List.mem_cons_of_mem _ ?_))
theorem holds_ok (w : World) (p : Program) (loose : List Str) (mean : ExcName → Option Value) (mg mb : Str → Option Value) : ∀ d, HoldsOk w p loose mean mg mb d := by
  intro d
  induction d with
  | atm => exact holds_atm w p loose mean mg mb
  | eq => exact holds_eq w p loose mean mg mb
  | no f ih => exact holds_no w p loose mean mg mb ih
  | and f g i1 i2 => exact holds_and w p loose mean mg mb i1 i2
end Mine
end
section
open PySem PySem.W PyProof.Rows PyProof.V PySem.Spec
namespace Mine
local macro_rules | `(tactic| k_mem) => `(tactic| first | exact List.mem_cons_self | (refine List.mem_cons_of_mem _ ?_; k_mem))
local macro_rules | `(tactic| walk_at "exec If") => `(tactic| (with_reducible refine wpAny_If ?_))
local macro_rules | `(tactic| walk_at "call type:set") => `(tactic| (k_here; k_dflt (refine' set3V ?F ?N rfl ?kl ?ku ?kx ?_; (case F => k_asm); (case N => k_asm); (case kl => k_mem); (case ku => first | decide | units_room); (case kx => first
  | exact ⟨[], rfl, (by show ([] : List Int) ∈ all8; decide), List.forall_mem_nil _⟩
  | exact ⟨[(0, _)], rfl, (by show ([0] : List Int) ∈ all8; decide), List.forall_mem_cons.mpr ⟨⟨_, _, by k_mem⟩, List.forall_mem_nil _⟩⟩
  | exact ⟨[(1, _)], rfl, (by show ([1] : List Int) ∈ all8; decide), List.forall_mem_cons.mpr ⟨⟨_, _, by k_mem⟩, List.forall_mem_nil _⟩⟩
  | exact ⟨[(2, _)], rfl, (by show ([2] : List Int) ∈ all8; decide), List.forall_mem_cons.mpr ⟨⟨_, _, by k_mem⟩, List.forall_mem_nil _⟩⟩
  | exact ⟨[(0, _), (1, _)], rfl, (by show ([0, 1] : List Int) ∈ all8; decide), List.forall_mem_cons.mpr ⟨⟨_, _, by k_mem⟩, List.forall_mem_cons.mpr ⟨⟨_, _, by k_mem⟩, List.forall_mem_nil _⟩⟩⟩
  | exact ⟨[(0, _), (2, _)], rfl, (by show ([0, 2] : List Int) ∈ all8; decide), List.forall_mem_cons.mpr ⟨⟨_, _, by k_mem⟩, List.forall_mem_cons.mpr ⟨⟨_, _, by k_mem⟩, List.forall_mem_nil _⟩⟩⟩
  | exact ⟨[(1, _), (2, _)], rfl, (by show ([1, 2] : List Int) ∈ all8; decide), List.forall_mem_cons.mpr ⟨⟨_, _, by k_mem⟩, List.forall_mem_cons.mpr ⟨⟨_, _, by k_mem⟩, List.forall_mem_nil _⟩⟩⟩
  | exact ⟨[(0, _), (1, _), (2, _)], rfl, (by show ([0, 1, 2] : List Int) ∈ all8; decide), List.forall_mem_cons.mpr ⟨⟨_, _, by k_mem⟩, List.forall_mem_cons.mpr ⟨⟨_, _, by k_mem⟩, List.forall_mem_cons.mpr ⟨⟨_, _, by k_mem⟩, List.forall_mem_nil _⟩⟩⟩⟩)); intro D' h' tk' ep' led' xs' F' N' l1 hr'; (try k_lt l1)))
local macro_rules | `(tactic| walk_at "eval Dict cons cons") => `(tactic| (k_here; (with_reducible show wpAny _ _ (eval (PySem.Expr.Dict [some (PySem.Expr.Tuple _ _ _)] _ _) _) _ _ _); k_dflt (refine' one_dispK ?F ?N ?b ?a ?l ?e ?n ?u ?_; (case F => k_asm); (case N => k_asm); (case b => exact Top.nolimit (by k_asm)); (case a => rfl); (case l => rfl); (case e => exact List.cons_ne_nil _ _); (case n => exact Nat.le_of_ble_eq_true rfl); (case u => first | decide | units_room)); intro d' h' F' N' l1 lo'; (try k_lt l1)))
local macro_rules | `(tactic| walk_at "call type:dict") => `(tactic| (k_here; k_dflt (refine' one_copyK ?F ?N ?b ?S ?d ?o ?k ?_; (case F => k_asm); (case N => k_asm); (case b => exact Top.nolimit (by k_asm)); (case o => assumption); (case d => k_mem); (case S => assumption); (case k => k_mem)); intro d' h' o' F' N' l1 lo' ho'; (try k_lt l1)))
local macro_rules | `(tactic| walk_at "truthy ref") => `(tactic| (k_here; (with_reducible show wpAny _ _ (truthy (Value.ref _)) _ _ _); k_dflt (refine' one_truthK ?N ?S ?d ?o ?k ?_; (case N => k_asm); (case o => assumption); (case d => k_mem); (case S => assumption); (case k => k_mem))))
local macro_rules | `(tactic| walk_at "compareOp NotIn ref ref") => `(tactic| (k_here; (with_reducible show wpAny _ _ (compareOp CmpOp.NotIn (Value.ref _) (Value.ref _)) _ _ _); k_dflt (refine' one_notin ?N ?S ?d ?o ?k ?b ?u ?_; (case N => k_asm); (case o => assumption); (case d => k_mem); (case S => assumption); (case k => k_mem); (case b => k_mem); (case u => first | decide | units_room))))
local macro_rules | `(tactic| walk_at "call ref") => `(tactic| (k_here; k_dflt (refine wpAny_call ?_; k_enter)))
local macro_rules | `(tactic| walk_at "subscriptTail Name Constant ref int") => `(tactic| (k_here; (with_reducible show wpAny _ _ (subscriptTail (PySem.Expr.Name (Str.ofString "f") _) _ (Value.ref _) (Value.int _ _)) _ _ _); k_dflt (refine' tupItem ?N ?m ?l ?h ?j ?x ?_ ?hs ?hg; (case N => k_asm); (case m => k_mem); (case l => decide); (case h => decide); (case j => rfl); (case x => rfl); (case hs => with_unfolding_all rfl); (case hg => (intro _; with_unfolding_all rfl)))))
local macro_rules | `(tactic| walk_at "subscriptTail Name Constant ref int") => `(tactic| (k_here; (with_reducible show wpAny _ _ (subscriptTail (PySem.Expr.Name (Str.ofString "term") _) _ (Value.ref _) (Value.int _ _)) _ _ _); k_dflt (refine' tupItem ?N ?m ?l ?h ?j ?x ?_ ?hs ?hg; (case N => k_asm); (case m => k_mem); (case l => decide); (case h => decide); (case j => rfl); (case x => rfl); (case hs => with_unfolding_all rfl); (case hg => (intro _; with_unfolding_all rfl)))))
local macro_rules | `(tactic| walk_at "eval ListComp") => `(tactic| (k_here; lcf_look; k_dflt (refine ListComp_Tp (by k_asm) (by with_unfolding_all rfl) (by decide) (by rfl) (by decide) (by rfl) ?_)))
local macro_rules | `(tactic| walk_at "compareOp NotIn str ref") => `(tactic| (k_here; k_dflt (refine' notinx ?T ?l ?_; (case T => k_tabat); (case l => rfl))))
local macro_rules | `(tactic| walk_at "subscriptTail Name Subscript ref str") => `(tactic| (k_here; k_dflt (refine' itemx ?T ?l ?_ ?hs ?hg; (case T => k_tabat); (case l => rfl); (case hs => with_unfolding_all rfl); (case hg => (intro _; with_unfolding_all rfl))); intro _ hv'; dict_open hv'))
local macro_rules | `(tactic| walk_at "CompRest") => `(tactic| (with_unfolding_all first
  | (refine LCg.CompRest.succ ?_; intro v' I' oI' C' oC' D' m' h' tk' E' hv' hC' hx' F' N' off' ne'; lcg_open hv')
  | refine LCg.CompRest.zero ?_))
local macro_rules | `(tactic| walk_at "mine0") => `(tactic| ((with_reducible show OneMade _ _ _ _ _ _); (refine' one_made ?F ?N ?U ?k ?_; (case F => k_asm); (case N => k_asm); (case U => k_updF); (case k => k_mem)); intro h' o' F' N' ho'; (try dsimp only at N')))
local macro_rules | `(tactic| walk_at "mine1") => `(tactic| ((with_reducible show TupSrc _ _ _ _ _ _ _ _ _ _ _ _ _ _); (k_dflt (refine' tupSrc_intro ?hh ?F ?N ?m ?z ?_; (case hh => rfl); (case F => k_asm); (case N => k_asm); (case m => k_mem); (case z => first | size_fits | exact Nat.le_of_ble_eq_true rfl))); intro g'; lcg_lit))
local macro_rules | `(tactic| walk_at "mine2") => `(tactic| ((with_reducible show LCg.CompEnd _ _ _ _ _ _ _ _ _ _ _ _ _ _); (k_dflt (refine' LCg.CompEnd.intro ?F ?N _ ?sub ?off ?src ?_; (case F => k_asm); (case N => k_asm); (case off => assumption); (case sub => (intro p9 hp9; repeat (first | exact hp9 | refine List.mem_cons_of_mem _ ?_))); (case src => lcg_src)))))
local macro_rules | `(tactic| walk_at "compareOp In ref ref") => `(tactic| (k_here; k_dflt (refine' in3M ?N ?S ?R ?m0 ?m1 ?m2 ?k ?a ?u ?_; (case N => k_asm); (case R => assumption); (case S => k_mem); (case m0 => k_mem); (case m1 => k_mem); (case m2 => k_mem); (case a => k_mem); (case k => exact ⟨Int.fmod_nonneg_of_pos _ (by decide), Int.fmod_lt_of_pos _ (by decide)⟩); (case u => first | decide | units_room))))
local macro_rules | `(tactic| walk_at "subscriptTail Attribute Name Name ref ref") => `(tactic| (k_here; k_dflt (refine' one_itemA ?N ?d ?o ?k ?b ?u ?_ ?hs; (case N => k_asm); (case o => assumption); (case d => k_mem); (case k => k_mem); (case b => k_mem); (case u => first | decide | units_room); (case hs => with_unfolding_all rfl))))
theorem rows_up {l : List (Int × Addr)} {news : List (Addr × Obj)} {a0 a1 a2 : Addr} {o0 o1 o2 : Obj} (hl : RowsIn [(a0, o0), (a1, o1), (a2, o2)] l) (m0 : (a0, o0) ∈ news) (m1 : (a1, o1) ∈ news) (m2 : (a2, o2) ∈ news) : RowsIn news l :=
  ⟨hl.1, fun p hp => let ⟨t, n, hm⟩ := hl.2 p hp; ⟨t, n, by
    simp only [List.mem_cons, List.not_mem_nil, or_false] at hm
    rcases hm with e | e | e
    · rw [e]; exact m0
    · rw [e]; exact m1
    · rw [e]; exact m2⟩⟩
theorem ne_same {prog : Program} {w : World} {A : Around} {E : Value → Shared → Prop} {s : Shared} {b : Bool} {Q : Value → Shared → Prop} (h : Q (.bool false) s) : wpAny (model prog w) A (compareOp .NotEq (.bool b) (.bool b)) Q E s := ne_bool (by rw [bne_self_eq_false]; exact h)
theorem eq_not {prog : Program} {w : World} {A : Around} {E : Value → Shared → Prop} {s : Shared} {b : Bool} {Q : Value → Shared → Prop} (h : Q (.bool false) s) : wpAny (model prog w) A (compareOp .Eq (.bool (!b)) (.bool b)) Q E s := eq_bool (by cases b <;> exact h)
theorem eq_and {prog : Program} {w : World} {A : Around} {E : Value → Shared → Prop} {s : Shared} {b : Bool} {Q : Value → Shared → Prop} (h : Q (.bool true) s) : wpAny (model prog w) A (compareOp .Eq (.bool (b && true)) (.bool b)) Q E s := eq_bool (by cases b <;> exact h)
local macro_rules | `(tactic| walk_at "memr") => `(tactic| first | with_reducible exact List.mem_cons_self | (with_reducible refine List.mem_cons_of_mem _ ?_; walk_at "memr"))
local macro_rules | `(tactic| walk_at "compareOp NotEq bool bool") => `(tactic| (with_reducible refine ne_same ?_))
local macro_rules | `(tactic| walk_at "compareOp Eq bool bool") => `(tactic| (first | with_reducible refine eq_not ?_ | with_reducible refine eq_and ?_))
local macro_rules | `(tactic| walk_at "call ref") => `(tactic| (k_here; (with_reducible show wpAny _ _ (call (Value.ref 60) _) _ _ _); k_dflt (refine' holds_ok _ _ _ _ _ _ _ _ _ _ _ _ _ _ _ _ _ _ _ _ _ _ _ _ _ _ _ _ _ _ _ _ _ _ _ _ _ _ _ _ _ _ _ _ _ ?zB ?zF ?zX ?zN ?zT ?zhk ?zd ?zu ?zM ?zg ?zk3 ?zf ?_; (case zB => k_asm); (case zF => k_asm); (case zX => k_asm); (case zN => k_asm); (case zT => k_asm); (case zhk => rfl); (case zf => first | (refine' .atm ?za1 ?za2 ?za3; (case za1 => walk_at "memr"); (case za2 => walk_at "memr"); (case za3 => walk_at "memr")) | (refine' .no ?zn1 (.atm ?za1 ?za2 ?za3); (case zn1 => walk_at "memr"); (case za1 => walk_at "memr"); (case za2 => walk_at "memr"); (case za3 => walk_at "memr")) | (refine' .and ?zn1 (.atm ?za1 ?za2 ?za3) (.eq ?ze1 ?ze2 ?ze3); (case zn1 => walk_at "memr"); (case za1 => walk_at "memr"); (case za2 => walk_at "memr"); (case za3 => walk_at "memr"); (case ze1 => walk_at "memr"); (case ze2 => walk_at "memr"); (case ze3 => walk_at "memr"))); (case zM => (refine' ⟨?zb1, ?zb2, ?zb3, ?zb4, ?zb5, ?zb6, ?zb7, ?zb8⟩; (case zb1 => k_mem); (case zb2 => k_mem); (case zb3 => k_mem); (case zb4 => assumption); (case zb5 => assumption); (case zb6 => k_mem); (case zb7 => k_mem); (case zb8 => (refine' rows_up ?zr ?z0 ?z1 ?z2; (case zr => assumption); (case z0 => k_mem); (case z1 => k_mem); (case z2 => k_mem))))); (case zd => decide +kernel); (case zu => decide +kernel); (case zg => (refine' ⟨_, _, _, ?zc1, ?zc2, ?zc3, ?zc4⟩; (case zc1 => assumption); (case zc2 => k_mem); (case zc3 => assumption); (case zc4 => assumption))); (case zk3 => exact ⟨Int.fmod_nonneg_of_pos _ (by decide), Int.fmod_lt_of_pos _ (by decide)⟩); intro h' tk' F' N'; (try dsimp only [Fk.ev])))) 
theorem t : PySem.Challenge.rw_ui0505_03.Holds := hd03 (by
  k_with_none
  w_strict (k_go0; (all_goals try k_fold); iterate 21 (first | walk_at "mine0" | walk_at "mine1" | walk_at "mine2" | (k_unfold; (try dsimp only)) | (k_end; wrow_close) | walk1 | (dsimp only; walk1) | (leave1; walk_say "STEP leave1"; try dsimp only)))
  (rename Fr _ _ _ _ => lF)
  (rename News _ _ _ _ => lN)
  refine execs_mid3 lF lN ?h1 ?h2
  case h1 =>
    (try k_fold)
    repeat' (first | walk_at "mine0" | walk_at "mine1" | walk_at "mine2" | (k_unfold; (try dsimp only)) | walk1 | (dsimp only; walk1) | (leave1; walk_say "STEP leave1"; try dsimp only))
    all_goals exact mid3_of (by k_asm) rfl (by k_asm) (by k_mem) (List.forall_mem_cons.mpr ⟨by k_mem, List.forall_mem_nil _⟩) (rows_cons (by assumption))
  case h2 =>
    intro s' hM
    obtain ⟨-, D, l, ep, led, a0, a1, a2, o0, o1, o2, h', tk', m', rfl, F2, hrow, N2, hR⟩ := hM
    rw [rows_of hrow] at F2
    (with_reducible show wpAny _ _ _ _ _ _)
    (try k_fold)
    repeat' (first | walk_at "mine0" | walk_at "mine1" | walk_at "mine2" | (k_unfold; (try dsimp only)) | walk1 | (dsimp only; walk1) | (leave1; walk_say "STEP leave1"; try dsimp only))
    all_goals (
      refine ⟨.inl ⟨.bool true, .bool true, [], rfl, fun _ => rfl, .bool _, ?_, fun _ => ⟨List.nodup_nil, fun _ h => nomatch h⟩⟩, Fr.keep (by k_asm), rfl, by assumption⟩
      wrow_post)
)
end Mine
end
theorem PySem.Challenge.cw_ui0505_03_holds : PySem.Challenge.rw_ui0505_03.Holds :=
  Mine.t
