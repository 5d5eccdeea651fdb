import PyProof.Rows.All
import Wide.All
import OpenK.AllK
import Wide.FinOn
import HandS.ForMost
import KE.KDictKeyed
import HandS.Property
import HandS.MakeKwOnly
import HandS.Deep
import HandS.Text
import HandS.Steps
import HandS.Wide
import HandS.SortRule
import HandS.SortKw
import KE.SortKeyHeap
import HandS.Iter
import KE.GoesEnum
import HandS.Strs
import HandS.Codes
import HandS.Defaults
import PyProof.Rows.SortShellAny
import PySem.Challenge.RW_waypapers_k42_whole_every_way_is_cut
set_option Elab.async false
set_option linter.all false
set_option maxRecDepth 100000
set_option maxHeartbeats 4000000
set_option Elab.async false
set_option linter.all false
set_option maxRecDepth 100000
set_option maxHeartbeats 4000000
/-! Dicts whose keys are texts and nested tuples of texts side by side, the keys told by their values. -/
namespace Wp
open PySem
open SeqAt

abbrev NK := NestedKey
/-- the value v in the heap h is the key k -/
def IsK (h : Heap) (k : NK) (v : Value) : Prop := NestedIs h k v ∧ k.depth ≤ 8 ∧ ((∃ x t, v = .str x t) ∨ ∃ a, v = .ref a)
abbrev Ent := NK × Value × Value
def entV (w : World) (x : Ent) : DictEntry := ⟨x.1.hash w, x.2.1, x.2.2⟩
def DictV (w : World) (h : Heap) (d : Addr) (xs : List Ent) : Prop :=
  ∃ o es ep, h.get? d = some o ∧ o.ExactDict ∧ o.data = .dict es ep ∧ es.toList = xs.map (entV w) ∧ (∀ x ∈ xs, IsK h x.1 x.2.1) ∧ (xs.map (·.1)).Nodup

theorem IsK.inj {h : Heap} {a b : NK} {v : Value} (x : IsK h a v) (y : IsK h b v) : a = b := NestedIs.inj _ _ _ x.1 y.1
theorem IsK.sameBut {h h' : Heap} {k : NK} {v : Value} {d : Addr} {o : Obj} {es ep} (x : IsK h k v) (ho : h.get? d = some o) (hd : o.data = .dict es ep) (hs : Heap.SameBut d h h') : IsK h' k v := by
  refine ⟨NestedIs.at (fun b ob vs n hb hc => ?_) k _ x.1, x.2⟩
  refine (hs.2 b fun e => ?_).trans hb
  rw [e, ho] at hb
  cases hb
  rw [hd] at hc
  cases hc

/-- the value at a key -/
def atV (xs : List Ent) (k : NK) : Option Value := (xs.find? fun x => decide (x.1 = k)).map (·.2.2)
def putV (k : NK) (v : Value) (x : Ent) : Ent := if x.1 = k then (x.1, x.2.1, v) else x
def storeV (xs : List Ent) (k : NK) (key v : Value) : List Ent := if (atV xs k).isSome then xs.map (putV k v) else xs ++ [(k, key, v)]
theorem atV_get {xs : List Ent} (hn : (xs.map (·.1)).Nodup) : ∀ {i : Nat} {k : NK} {p : Value × Value}, xs[i]? = some (k, p) → atV xs k = some p.2 := by
  induction xs with
  | nil => intro i k p h; simp at h
  | cons x r ih =>
    intro i k p h
    rw [List.map_cons, List.nodup_cons] at hn
    cases i with
    | zero =>
      have e : x = (k, p) := Option.some.inj h
      subst e
      simp [atV]
    | succ j =>
      have h' : r[j]? = some (k, p) := h
      have hm : k ∈ r.map (·.1) := List.mem_map.mpr ⟨(k, p), List.mem_of_getElem? h', rfl⟩
      have ne : ¬ x.1 = k := fun e => hn.1 (e ▸ hm)
      have q := ih hn.2 h'
      simpa [atV, List.find?_cons, ne] using q
theorem atV_none {xs : List Ent} {k : NK} (h : ∀ (j : Nat) (p : Value × Value), xs[j]? ≠ some (k, p)) : atV xs k = none := by
  have e : (xs.find? fun x => decide (x.1 = k)) = none := by
    refine List.find?_eq_none.mpr fun x hx hk => ?_
    obtain ⟨j, hj⟩ := List.mem_iff_getElem?.mp hx
    exact h j x.2 (by rw [hj, ← of_decide_eq_true hk])
  simp [atV, e]
theorem nokey_mem {xs : List Ent} {k : NK} (h : ∀ (j : Nat) (p : Value × Value), xs[j]? ≠ some (k, p)) : k ∉ xs.map (·.1) := fun hm => by
  obtain ⟨x, hx, e⟩ := List.mem_map.mp hm
  obtain ⟨j, hj⟩ := List.mem_iff_getElem?.mp hx
  exact h j x.2 (by rw [hj, ← e])
theorem ix_one {xs : List Ent} (hn : (xs.map (·.1)).Nodup) {i j : Nat} {k : NK} {p q : Value × Value} (hi : xs[i]? = some (k, p)) (hj : xs[j]? = some (k, q)) : i = j := by
  have a : (xs.map (·.1))[i]? = some k := by rw [List.getElem?_map, hi]; rfl
  have b : (xs.map (·.1))[j]? = some k := by rw [List.getElem?_map, hj]; rfl
  exact (List.getElem?_inj (List.getElem?_eq_some_iff.mp a).1 hn).mp (a.trans b.symm)
theorem putV_skip (xs : List Ent) (k : NK) (v : Value) (hn : k ∉ xs.map (·.1)) : xs.map (putV k v) = xs := by
  induction xs with
  | nil => rfl
  | cons x r ih =>
    simp only [List.map_cons, List.mem_cons, not_or] at hn ⊢
    rw [putV, if_neg (fun e => hn.1 e.symm), ih hn.2]
theorem putV_keys (xs : List Ent) (k : NK) (v : Value) : (xs.map (putV k v)).map (·.1) = xs.map (·.1) := by
  induction xs with
  | nil => rfl
  | cons x r ih =>
    simp only [List.map_cons, ih]
    by_cases hk : x.1 = k <;> simp [putV, hk]
theorem modify_putV (w : World) (k : NK) (v : Value) : ∀ {xs : List Ent} {j : Nat} {p : Value × Value}, (xs.map (·.1)).Nodup → xs[j]? = some (k, p) →
    (xs.map (entV w)).modify j (fun e : DictEntry => { e with val := v }) = (xs.map (putV k v)).map (entV w) := by
  intro xs
  induction xs with
  | nil => intro j p _ h; simp at h
  | cons x r ih =>
    intro j p hn h
    rw [List.map_cons, List.nodup_cons] at hn
    cases j with
    | zero =>
      have e : x = (k, p) := Option.some.inj h
      subst e
      rw [List.map_cons, List.map_cons, putV_skip r k v hn.1, putV, if_pos rfl, List.map_cons]
      rfl
    | succ j =>
      have h' : r[j]? = some (k, p) := h
      have hm : k ∈ r.map (·.1) := List.mem_map.mpr ⟨(k, p), List.mem_of_getElem? h', rfl⟩
      have ne : ¬ x.1 = k := fun e => hn.1 (e ▸ hm)
      rw [List.map_cons, List.map_cons, putV, if_neg ne, List.map_cons]
      show entV w x :: (r.map (entV w)).modify j _ = entV w x :: (r.map (putV k v)).map (entV w)
      rw [ih hn.2 h']
theorem entV_at {w : World} {es : Array DictEntry} {xs : List Ent} (he : es.toList = xs.map (entV w)) (j : Nat) : es[j]? = (xs[j]?).map (entV w) := by
  rw [← Array.getElem?_toList, he, List.getElem?_map]
theorem entV_size {w : World} {es : Array DictEntry} {xs : List Ent} (he : es.toList = xs.map (entV w)) : es.size = xs.length := by
  rw [← Array.length_toList, he, List.length_map]
theorem entV_mem {w : World} {es : Array DictEntry} {xs : List Ent} (he : es.toList = xs.map (entV w)) {e : DictEntry} (h : e ∈ es) : ∃ x ∈ xs, e = entV w x := by
  have q : e ∈ xs.map (entV w) := he ▸ Array.mem_toList_iff.mpr h
  obtain ⟨x, hx, r⟩ := List.mem_map.mp q
  exact ⟨x, hx, r.symm⟩

section
variable {prog : Program} {w : World} {A : Around} {E : Value → Shared → Prop} {s : Shared}
theorem hashK {k : NK} {v : Value} {Q : Int → Shared → Prop} (hu : A.units + 8 < cLine) (hk : IsK s.heap k v) (h : Q (k.hash w) { s with toks := s.toks + k.draws }) : wpAny (model prog w) A (pyHash v) Q E s :=
  pyHash_key _ _ _ _ _ hk.1 (by have := hk.2.1; omega) h
theorem eqK {x y : NK} {a b : Value} {Q : Bool → Shared → Prop} (hu : A.units + 8 < cLine) (hx : IsK s.heap x a) (hy : IsK s.heap y b) (h : Q (decide (x = y)) s) : wpAny (model prog w) A (eqBool a b) Q E s :=
  eqAt_key x y A s _ _ hx.1 hy.1 (by have := hx.2.1; omega) _ _ _ _ (by rw [← NestedKey.decide_eq]; exact h)
theorem quietK {k : NK} {v : Value} {Q : Bool → Shared → Prop} (hk : IsK s.heap k v) (h : Q true s) : wpAny (model prog w) A (eqIsQuiet 8 v) Q E s := quiet_key k _ 8 s hk.1 hk.2.1 A E Q h
theorem tellK {k : NK} {key : Value} {stored : List Value} {Q : Bool → Shared → Prop} (hkey : IsK s.heap k key) (hst : ∀ v ∈ stored, ∃ k', IsK s.heap k' v) (h : Q false s) : wpAny (model prog w) A (tableMayTell key stored) Q E s := by
  unfold tableMayTell
  split
  · exact wpAny_pure h
  · refine wpAny_bind (quietK hkey ?_)
    simp only [Bool.not_true, Bool.false_eq_true, if_false]
    refine wpAny_bind ?_
    refine wpAny_forIn_list _ (fun rest r s' => s' = s ∧ r = (none, ()) ∧ ∀ v ∈ rest, ∃ k', IsK s.heap k' v) _ ?_ ?_ _ _ ⟨rfl, rfl, hst⟩
    · rintro x rest r s' ⟨rfl, rfl, hr⟩
      obtain ⟨k', hb⟩ := hr x List.mem_cons_self
      refine wpAny_bind (quietK hb ?_)
      simp only [Bool.not_true, Bool.false_eq_true, if_false]
      exact wpAny_pure ⟨rfl, rfl, fun v hv => hr v (List.mem_cons_of_mem _ hv)⟩
    · rintro r s' ⟨rfl, rfl, _⟩
      exact wpAny_pure h

/-- what a look-up has to find -/
def Finds (xs : List Ent) (k : NK) (Q : Option Nat → Shared → Prop) (s : Shared) : Prop :=
  ((∀ (j : Nat) (p : Value × Value), xs[j]? ≠ some (k, p)) → Q none s) ∧ ∀ (j : Nat) (p : Value × Value), xs[j]? = some (k, p) → Q (some j) s

variable {d : Addr} {o : Obj} {es : Array DictEntry} {ep : Nat} {xs : List Ent} {k : NK} {key : Value}
theorem haskeyK (he : es.toList = xs.map (entV w)) {j : Nat} {p : Value × Value} (hj : xs[j]? = some (k, p)) : ((es[j]?.map (·.hash)) == some (k.hash w)) = true := by
  rw [entV_at he j, hj]
  simp [entV]
/-- all that lies ahead of place x without the key's hash, and x itself with another key -/
theorem noneYet (he : es.toList = xs.map (entV w)) {i x : Nat} (hno : ∀ (j : Nat) (p : Value × Value), j < i → xs[j]? ≠ some (k, p))
    (hskip : ∀ j, i ≤ j → j < x → ((es[j]?.map (·.hash)) == some (k.hash w)) = false) : ∀ (j : Nat) (p : Value × Value), j < x → xs[j]? ≠ some (k, p) := fun j p hjx hj => by
  rcases Nat.lt_or_ge j i with h | h
  · exact hno j p h hj
  · have q := hskip j h hjx
    rw [haskeyK he hj] at q
    exact absurd q (by decide)
theorem plainK {Q : Option Nat → Shared → Prop} (hu : A.units + 8 < cLine) (hkey : IsK s.heap k key) (ho : s.heap.get? d = some o) (hd : o.data = .dict es ep) (he : es.toList = xs.map (entV w))
    (his : ∀ x ∈ xs, IsK s.heap x.1 x.2.1) (hF : Finds xs k Q s) :
    wpAny (model prog w) A (dictWalkPlain d key (k.hash w) es (placesWithHash es.size (fun i => es[i]?.map (·.hash)) (k.hash w))) Q E s := by
  have hsz := entV_size he
  unfold dictWalkPlain
  refine wpAny_bind ?_
  refine wpAny_forIn_list _
    (fun rest b s' => s' = s ∧ b = (none, ()) ∧ ∃ i, rest = (List.range' i (es.size - i)).filter (fun i => (es[i]?.map (·.hash)) == some (k.hash w)) ∧ i ≤ es.size ∧
      ∀ (j : Nat) (p : Value × Value), j < i → xs[j]? ≠ some (k, p)) _ ?_ ?_ _ _
    ⟨rfl, rfl, 0, by rw [placesWithHash, List.range_eq_range', Nat.sub_zero], Nat.zero_le _, fun _ _ h => absurd h (Nat.not_lt_zero _)⟩
  · rintro x rest b s' ⟨rfl, rfl, i, hr, hi, hno⟩
    obtain ⟨hix, hxn, hpx, hskip, hrest⟩ := filter_range'_cons _ _ _ _ _ hr.symm
    have hlt : x < es.size := by omega
    have hrest' : rest = (List.range' (x + 1) (es.size - (x + 1))).filter (fun i => (es[i]?.map (·.hash)) == some (k.hash w)) := by rw [hrest]; congr 2; omega
    obtain ⟨⟨k', b, v'⟩, hkv⟩ : ∃ y, xs[x]? = some y := ⟨xs[x]'(by rw [← hsz]; exact hlt), List.getElem?_eq_getElem _⟩
    have hib : IsK s'.heap k' b := his _ (List.mem_of_getElem? hkv)
    have hex : es[x]? = some ⟨k'.hash w, b, v'⟩ := by rw [entV_at he x, hkv]; rfl
    have ahead := noneYet he hno hskip
    have hnext : ¬ k' = k → ∀ (j : Nat) (p : Value × Value), j < x + 1 → xs[j]? ≠ some (k, p) := fun hne j p hj hjk => by
      rcases Nat.lt_or_ge j x with h | h
      · exact ahead j p h hjk
      · have e : j = x := by omega
        subst e
        rw [hkv] at hjk
        injection hjk with hjk
        injection hjk with hjk
        exact hne hjk
    rw [hex]
    dsimp only
    by_cases hh : (k'.hash w == k.hash w) = true
    · rw [if_pos hh]
      refine wpAny_bind (wpAny_dictEpoch ho hd (wpAny_bind (eqK (x := k') (y := k) hu hib hkey (wpAny_bind (wpAny_dictEpoch ho hd ?_)))))
      show wpAny _ _ (if (ep != ep) = true then _ else _) _ E _
      rw [if_neg (by simp)]
      by_cases hkk : k' = k
      · subst hkk
        rw [decide_eq_true rfl]
        exact wpAny_bind (wpAny_rule (wpAny_pure (wpAny_pure (hF.2 x _ hkv))))
      · rw [decide_eq_false hkk]
        exact wpAny_bind (wpAny_rule (wpAny_pure ⟨rfl, rfl, x + 1, hrest', hlt, hnext hkk⟩))
    · rw [if_neg hh]
      refine wpAny_pure ⟨rfl, rfl, x + 1, hrest', hlt, hnext ?_⟩
      intro hkk
      rw [hkk] at hh; simp at hh
  · rintro b s' ⟨rfl, rfl, i, hr, hi, hno⟩
    refine wpAny_pure (hF.1 (fun j p hj => ?_))
    refine noneYet (x := es.size) he hno (fun j h1 h2 => ?_) j p ?_ hj
    · have q := List.filter_eq_nil_iff.mp hr.symm j (List.mem_range'_1.mpr ⟨h1, by omega⟩)
      simpa using q
    · rw [hsz]
      exact (List.getElem?_eq_some_iff.mp hj).1
end
end Wp
/-! Look-ups, stores in dicts of mixed keys. -/
namespace Wp
open PySem
open SeqAt
section
variable {prog : Program} {w : World} {A : Around} {E : Value → Shared → Prop} {s : Shared}
variable {d : Addr} {o : Obj} {es : Array DictEntry} {ep : Nat} {xs : List Ent} {k : NK} {key : Value}

theorem findK {Q : Option Nat → Shared → Prop} (hu : A.units + 8 < cLine) (hkey : IsK s.heap k key) (ho : s.heap.get? d = some o) (hd : o.data = .dict es ep) (he : es.toList = xs.map (entV w))
    (his : ∀ x ∈ xs, IsK s.heap x.1 x.2.1) (hn : (xs.map (·.1)).Nodup) (hF : Finds xs k Q s) :
    wpAny (model prog w) A (dictFind d key (k.hash w)) Q E s := by
  have hsz := entV_size he
  have hst : ∀ v ∈ (placesWithHash es.size (fun i => es[i]?.map (·.hash)) (k.hash w)).filterMap (fun i => es[i]?.map (·.key)), ∃ k', IsK s.heap k' v := by
    intro v hv
    obtain ⟨i, _, hi⟩ := List.mem_filterMap.mp hv
    cases hei : es[i]? with
    | none => rw [hei] at hi; cases hi
    | some e =>
      rw [hei] at hi
      obtain rfl : e.key = v := by simpa using hi
      obtain ⟨x, hx, rfl⟩ := entV_mem he (Array.mem_of_getElem? hei)
      exact ⟨x.1, his x hx⟩
  have hany : ¬ (es.any fun e => e.key == key && e.hash != k.hash w) = true := by
    rw [← Array.any_toList, List.any_eq_true]
    rintro ⟨e, hin, hc⟩
    obtain ⟨x, hx, rfl⟩ := entV_mem he (Array.mem_toList_iff.mp hin)
    simp only [entV, Bool.and_eq_true, beq_iff_eq, bne_iff_ne, ne_eq] at hc
    obtain ⟨hxa, hne⟩ := hc
    have q := his x hx
    rw [hxa] at q
    exact hne (by rw [q.inj hkey])
  unfold dictFind
  try with_reducible refine wpAny_holding ?_
  refine wpAny_bind (wpAny_dictEntries ho hd ?_)
  dsimp only
  rcases hkey.2.2 with ⟨x0, t0, rfl⟩ | ⟨a0, rfl⟩
  case inr =>
    rw [if_neg (show ¬ ((Value.ref a0 :: (placesWithHash es.size (fun i => es[i]?.map (·.hash)) (k.hash w)).filterMap (fun i => es[i]?.map (·.key))).all carriedByValue) = true by simp [carriedByValue])]
    rw [if_neg hany]
    by_cases hone : (((placesWithHash es.size (fun i => es[i]?.map (·.hash)) (k.hash w)).filterMap (fun i => es[i]?.map (·.key))) == [Value.ref a0]) = true <;>
    (first | rw [if_pos hone] | rw [if_neg hone]) <;> (first | refine wpAny_bind (wpAny_pure ?_) | refine wpAny_bind (tellK hkey hst ?_)) <;> (
      rw [if_neg (by simp)]
      refine wpAny_bind ?_
      refine wpAny_forIn_list _
        (fun rest b s' => s' = s ∧ ∃ i hit, b = (none, hit) ∧ rest = (List.range' i (es.size - i)).filter (fun i => (es[i]?.map (·.hash)) == some (k.hash w)) ∧ i ≤ es.size ∧
          ((hit = none ∧ ∀ (j : Nat) (p : Value × Value), j < i → xs[j]? ≠ some (k, p)) ∨ ∃ j p, hit = some j ∧ j < i ∧ xs[j]? = some (k, p))) _ ?_ ?_ _ _
        ⟨rfl, 0, none, rfl, by rw [placesWithHash, List.range_eq_range', Nat.sub_zero], Nat.zero_le _, .inl ⟨rfl, fun _ _ h => absurd h (Nat.not_lt_zero _)⟩⟩
      · rintro x rest b s' ⟨rfl, i, hit, rfl, hr, hi, hH⟩
        obtain ⟨hix, hxn, hpx, hskip, hrest⟩ := filter_range'_cons _ _ _ _ _ hr.symm
        have hlt : x < es.size := by omega
        have hrest' : rest = (List.range' (x + 1) (es.size - (x + 1))).filter (fun i => (es[i]?.map (·.hash)) == some (k.hash w)) := by rw [hrest]; congr 2; omega
        obtain ⟨⟨k', b, v'⟩, hkv⟩ : ∃ y, xs[x]? = some y := ⟨xs[x]'(by rw [← hsz]; exact hlt), List.getElem?_eq_getElem _⟩
        have hib : IsK s'.heap k' b := his _ (List.mem_of_getElem? hkv)
        have hex : es[x]? = some ⟨k'.hash w, b, v'⟩ := by rw [entV_at he x, hkv]; rfl
        have hHx : (hit = none ∧ ∀ (j : Nat) (p : Value × Value), j < x → xs[j]? ≠ some (k, p)) ∨ ∃ j p, hit = some j ∧ j < x ∧ xs[j]? = some (k, p) := by
          rcases hH with ⟨h0, hno⟩ | ⟨j, p, h1, hji, hj⟩
          · exact .inl ⟨h0, noneYet he hno hskip⟩
          · exact .inr ⟨j, p, h1, by omega, hj⟩
        have hstay : ¬ k' = k → ((hit = none ∧ ∀ (j : Nat) (p : Value × Value), j < x + 1 → xs[j]? ≠ some (k, p)) ∨ ∃ j p, hit = some j ∧ j < x + 1 ∧ xs[j]? = some (k, p)) := by
          intro hne
          rcases hHx with ⟨h0, hno⟩ | ⟨j, p, h1, hjx, hj⟩
          · refine .inl ⟨h0, fun j p hjx hj => ?_⟩
            rcases Nat.lt_or_ge j x with h | h
            · exact hno j p h hj
            · have hjx' : j = x := by omega
              subst hjx'
              rw [hkv] at hj
              injection hj with hj
              injection hj with hj
              exact hne hj
          · exact .inr ⟨j, p, h1, by omega, hj⟩
        rw [hex]
        dsimp only
        by_cases hh : (k'.hash w == k.hash w) = true
        · rw [if_pos hh]
          refine wpAny_bind (wpAny_dictEpoch ho hd (wpAny_bind (eqK (x := k') (y := k) hu hib hkey (wpAny_bind (wpAny_dictEpoch ho hd ?_)))))
          show wpAny _ _ (if (ep != ep) = true then _ else _) _ E _
          rw [if_neg (by simp)]
          by_cases hkk : k' = k
          · rw [decide_eq_true hkk]
            subst hkk
            rcases hHx with ⟨rfl, _⟩ | ⟨j, p, _, hjx, hj⟩
            · first | rw [if_pos rfl] | skip
              simp only [Option.isSome_none, Bool.false_eq_true, if_false]
              first | refine wpAny_bind (wpAny_pure ?_) | skip
              refine wpAny_bind (wpAny_rule ?_)
              split
              · exact wpAny_pure (wpAny_pure (hF.2 x _ hkv))
              · exact wpAny_pure ⟨rfl, x + 1, some x, rfl, hrest', hlt, .inr ⟨x, _, rfl, Nat.lt_succ_self x, hkv⟩⟩
            · exact absurd (ix_one hn hj hkv) (by omega)
          · rw [decide_eq_false hkk]
            simp only [Bool.false_eq_true, if_false]
            refine wpAny_bind (wpAny_rule ?_)
            first | rw [if_neg (by simp)] | skip
            first
              | exact wpAny_pure ⟨rfl, x + 1, hit, rfl, hrest', hlt, hstay hkk⟩
              | exact wpAny_bind (wpAny_pure (wpAny_pure ⟨rfl, x + 1, hit, rfl, hrest', hlt, hstay hkk⟩))
        · rw [if_neg hh]
          refine wpAny_pure ⟨rfl, x + 1, hit, rfl, hrest', hlt, hstay ?_⟩
          intro hkk
          rw [hkk] at hh; simp at hh
      · rintro b s' ⟨rfl, i, hit, rfl, hr, hi, hH⟩
        rcases hH with ⟨rfl, hno⟩ | ⟨j, p, rfl, _, hj⟩
        · refine wpAny_pure (hF.1 fun j p hj => ?_)
          refine noneYet (x := es.size) he hno (fun j h1 h2 => ?_) j p ?_ hj
          · have q := List.filter_eq_nil_iff.mp hr.symm j (List.mem_range'_1.mpr ⟨h1, by omega⟩)
            simpa using q
          · rw [hsz]
            exact (List.getElem?_eq_some_iff.mp hj).1
        · exact wpAny_pure (hF.2 j p hj))
  case inl =>
    dsimp only
    by_cases hstrs : (es.all fun e => isExactStrKey e.key) = true
    · rw [if_pos hstrs]
      have his2 : ∀ e ∈ es, ∃ y ∈ xs, e = entV w y ∧ ∃ z t, y.2.1 = Value.str z t ∧ y.1 = .text z := fun e hm => by
        obtain ⟨y, hy, e2⟩ := entV_mem he hm
        have q := Array.all_eq_true.mp hstrs
        obtain ⟨j, hj, ej⟩ := Array.mem_iff_getElem.mp hm
        have q2 := q j hj
        rw [ej, e2] at q2
        have r := his y hy
        obtain ⟨k2, b2, v2⟩ := y
        refine ⟨_, hy, e2, ?_⟩
        have q3 : isExactStrKey b2 = true := q2
        cases b2 with
        | str z t =>
          refine ⟨z, t, rfl, ?_⟩
          have r1 : NestedIs s.heap k2 (.str z t) := r.1
          cases r1
          rfl
        | _ => exact absurd q3 (by simp [isExactStrKey])
      have hk0 : k = .text x0 := by
        have r1 := hkey.1
        cases r1
        rfl
      unfold foundByValue
      cases hf : es.findIdx? (fun e => e.key.isStr x0) with
      | none =>
        refine wpAny_pure (hF.1 fun j p hj => ?_)
        have hn' := Array.findIdx?_eq_none_iff.mp hf
        have hjl : j < xs.length := (List.getElem?_eq_some_iff.mp hj).1
        have hje : es[j]? = some (entV w (k, p)) := by rw [entV_at he j, hj]; rfl
        have hm : entV w (k, p) ∈ es := Array.mem_of_getElem? hje
        obtain ⟨y, hy, e2, z, t, e3, e4⟩ := his2 _ hm
        have q := hn' _ hm
        have r := his (k, p) (List.mem_of_getElem? hj)
        have r1 : NestedIs s.heap (.text x0) p.1 := by
          have r2 := r.1
          rw [hk0] at r2
          exact r2
        have q' : p.1.isStr x0 = false := by simpa [entV] using q
        cases hp : p.1 with
        | str z2 t2 =>
          rw [hp] at r1 q'
          cases r1
          simp [Value.isStr] at q'
        | _ => rw [hp] at r1; cases r1
      | some i =>
        obtain ⟨hlt, hi, _⟩ := Array.findIdx?_eq_some_iff_getElem.mp hf
        obtain ⟨y, hy, e2, z, t, e3, e4⟩ := his2 _ (Array.getElem_mem hlt)
        obtain ⟨y2, hy2⟩ : ∃ y2, xs[i]? = some y2 := ⟨xs[i]'(by rw [← hsz]; exact hlt), List.getElem?_eq_getElem _⟩
        have hex : es[i]? = some (entV w y2) := by rw [entV_at he i, hy2]; rfl
        have hex2 : es[i] = entV w y2 := by
          rw [Array.getElem?_eq_getElem hlt] at hex
          exact Option.some.inj hex
        have hb : IsK s.heap y2.1 y2.2.1 := his y2 (List.mem_of_getElem? hy2)
        have hsame : y2.1 = k := by
          rw [hex2] at hi
          have hi' : y2.2.1.isStr x0 = true := hi
          have r1 := hb.1
          cases hp : y2.2.1 with
          | str z2 t2 =>
            rw [hp] at r1 hi'
            rw [hk0]
            generalize y2.1 = kk at r1 ⊢
            cases r1
            have : z2 = x0 := by simpa [Value.isStr] using hi'
            rw [this]
          | _ => rw [hp] at hi'; simp [Value.isStr] at hi'
        dsimp only
        rw [hex]
        dsimp only
        refine wpAny_bind (wpAny_dictEpoch ho hd (wpAny_bind (eqK (x := y2.1) (y := k) hu hb hkey (wpAny_bind (wpAny_dictEpoch ho hd ?_)))))
        show wpAny _ _ (if (ep != ep) = true then _ else _) _ E _
        rw [if_neg (by simp), decide_eq_true hsame]
        refine wpAny_bind (wpAny_rule (wpAny_pure (hF.2 i y2.2 ?_)))
        rw [hy2, ← hsame]
    · rw [if_neg hstrs]
      by_cases hcar : ((Value.str x0 t0 :: (placesWithHash es.size (fun i => es[i]?.map (·.hash)) (k.hash w)).filterMap (fun i => es[i]?.map (·.key))).all carriedByValue) = true
      · rw [if_pos hcar]
        exact plainK hu hkey ho hd he his hF
      · rw [if_neg hcar]
        by_cases hone : (((placesWithHash es.size (fun i => es[i]?.map (·.hash)) (k.hash w)).filterMap (fun i => es[i]?.map (·.key))) == [Value.str x0 t0]) = true <;>
        (first | rw [if_pos hone] | rw [if_neg hone]) <;> (first | refine wpAny_bind (wpAny_pure ?_) | refine wpAny_bind (tellK hkey hst ?_)) <;> (
          rw [if_neg (by simp)]
          refine wpAny_bind ?_
          refine wpAny_forIn_list _
            (fun rest b s' => s' = s ∧ ∃ i hit, b = (none, hit) ∧ rest = (List.range' i (es.size - i)).filter (fun i => (es[i]?.map (·.hash)) == some (k.hash w)) ∧ i ≤ es.size ∧
              ((hit = none ∧ ∀ (j : Nat) (p : Value × Value), j < i → xs[j]? ≠ some (k, p)) ∨ ∃ j p, hit = some j ∧ j < i ∧ xs[j]? = some (k, p))) _ ?_ ?_ _ _
            ⟨rfl, 0, none, rfl, by rw [placesWithHash, List.range_eq_range', Nat.sub_zero], Nat.zero_le _, .inl ⟨rfl, fun _ _ h => absurd h (Nat.not_lt_zero _)⟩⟩
          · rintro x rest b s' ⟨rfl, i, hit, rfl, hr, hi, hH⟩
            obtain ⟨hix, hxn, hpx, hskip, hrest⟩ := filter_range'_cons _ _ _ _ _ hr.symm
            have hlt : x < es.size := by omega
            have hrest' : rest = (List.range' (x + 1) (es.size - (x + 1))).filter (fun i => (es[i]?.map (·.hash)) == some (k.hash w)) := by rw [hrest]; congr 2; omega
            obtain ⟨⟨k', b, v'⟩, hkv⟩ : ∃ y, xs[x]? = some y := ⟨xs[x]'(by rw [← hsz]; exact hlt), List.getElem?_eq_getElem _⟩
            have hib : IsK s'.heap k' b := his _ (List.mem_of_getElem? hkv)
            have hex : es[x]? = some ⟨k'.hash w, b, v'⟩ := by rw [entV_at he x, hkv]; rfl
            have hHx : (hit = none ∧ ∀ (j : Nat) (p : Value × Value), j < x → xs[j]? ≠ some (k, p)) ∨ ∃ j p, hit = some j ∧ j < x ∧ xs[j]? = some (k, p) := by
              rcases hH with ⟨h0, hno⟩ | ⟨j, p, h1, hji, hj⟩
              · exact .inl ⟨h0, noneYet he hno hskip⟩
              · exact .inr ⟨j, p, h1, by omega, hj⟩
            have hstay : ¬ k' = k → ((hit = none ∧ ∀ (j : Nat) (p : Value × Value), j < x + 1 → xs[j]? ≠ some (k, p)) ∨ ∃ j p, hit = some j ∧ j < x + 1 ∧ xs[j]? = some (k, p)) := by
              intro hne
              rcases hHx with ⟨h0, hno⟩ | ⟨j, p, h1, hjx, hj⟩
              · refine .inl ⟨h0, fun j p hjx hj => ?_⟩
                rcases Nat.lt_or_ge j x with h | h
                · exact hno j p h hj
                · have hjx' : j = x := by omega
                  subst hjx'
                  rw [hkv] at hj
                  injection hj with hj
                  injection hj with hj
                  exact hne hj
              · exact .inr ⟨j, p, h1, by omega, hj⟩
            rw [hex]
            dsimp only
            by_cases hh : (k'.hash w == k.hash w) = true
            · rw [if_pos hh]
              refine wpAny_bind (wpAny_dictEpoch ho hd (wpAny_bind (eqK (x := k') (y := k) hu hib hkey (wpAny_bind (wpAny_dictEpoch ho hd ?_)))))
              show wpAny _ _ (if (ep != ep) = true then _ else _) _ E _
              rw [if_neg (by simp)]
              by_cases hkk : k' = k
              · rw [decide_eq_true hkk]
                subst hkk
                rcases hHx with ⟨rfl, _⟩ | ⟨j, p, _, hjx, hj⟩
                · first | rw [if_pos rfl] | skip
                  simp only [Option.isSome_none, Bool.false_eq_true, if_false]
                  first | refine wpAny_bind (wpAny_pure ?_) | skip
                  refine wpAny_bind (wpAny_rule ?_)
                  split
                  · exact wpAny_pure (wpAny_pure (hF.2 x _ hkv))
                  · exact wpAny_pure ⟨rfl, x + 1, some x, rfl, hrest', hlt, .inr ⟨x, _, rfl, Nat.lt_succ_self x, hkv⟩⟩
                · exact absurd (ix_one hn hj hkv) (by omega)
              · rw [decide_eq_false hkk]
                simp only [Bool.false_eq_true, if_false]
                refine wpAny_bind (wpAny_rule ?_)
                first | rw [if_neg (by simp)] | skip
                first
                  | exact wpAny_pure ⟨rfl, x + 1, hit, rfl, hrest', hlt, hstay hkk⟩
                  | exact wpAny_bind (wpAny_pure (wpAny_pure ⟨rfl, x + 1, hit, rfl, hrest', hlt, hstay hkk⟩))
            · rw [if_neg hh]
              refine wpAny_pure ⟨rfl, x + 1, hit, rfl, hrest', hlt, hstay ?_⟩
              intro hkk
              rw [hkk] at hh; simp at hh
          · rintro b s' ⟨rfl, i, hit, rfl, hr, hi, hH⟩
            rcases hH with ⟨rfl, hno⟩ | ⟨j, p, rfl, _, hj⟩
            · refine wpAny_pure (hF.1 fun j p hj => ?_)
              refine noneYet (x := es.size) he hno (fun j h1 h2 => ?_) j p ?_ hj
              · have q := List.filter_eq_nil_iff.mp hr.symm j (List.mem_range'_1.mpr ⟨h1, by omega⟩)
                simpa using q
              · rw [hsz]
                exact (List.getElem?_eq_some_iff.mp hj).1
            · exact wpAny_pure (hF.2 j p hj))
end
end Wp
/-! The operations of dicts of mixed keys. -/
namespace Wp
open PySem
open SeqAt
section
variable {prog : Program} {w : World} {A : Around} {E : Value → Shared → Prop} {s : Shared}
variable {d : Addr} {xs : List Ent} {k : NK} {key : Value}

theorem DictV.typeIs {s : Shared} (hm : DictV w s.heap d xs) : s.TypeIs (.ref d) "dict" := let ⟨o, _, _, ho, hc, _⟩ := hm; ⟨o, ho, hc.1⟩
theorem DictV.new (h : Heap) : DictV w (h.push { cls := .type "dict", data := .dict #[] }) h.objs.size [] :=
  ⟨_, #[], 0, Heap.get?_push_size _ rfl, ⟨rfl, rfl, rfl⟩, rfl, rfl, fun _ hx => by simp at hx, List.nodup_nil⟩
theorem getK {Q : Option Value → Shared → Prop} (hu : A.units + 8 < cLine) (hkey : IsK s.heap k key) (hm : DictV w s.heap d xs)
    (h : Q (atV xs k) { s with toks := s.toks + k.draws }) : wpAny (model prog w) A (dictGet d key) Q E s := by
  obtain ⟨o, es, ep, ho, _, hd, he, his, hn⟩ := hm
  unfold dictGet
  try with_reducible refine wpAny_holding ?_
  refine wpAny_bind (hashK hu hkey (wpAny_bind (findK (s := { s with toks := s.toks + k.draws }) hu hkey ho hd he his hn ⟨fun hno => ?_, fun j p hj => ?_⟩)))
  · rw [atV_none hno] at h
    exact wpAny_pure h
  · rw [atV_get hn hj] at h
    refine wpAny_bind (wpAny_dictEntries (s := { s with toks := s.toks + k.draws }) ho hd ?_)
    rw [entV_at he j, hj]
    exact wpAny_pure h
theorem DictV.grown {h : Heap} {o : Obj} {es : Array DictEntry} {ep : Nat} (v : Value) (ho : h.get? d = some o) (hc : o.ExactDict) (hd : o.data = .dict es ep) (he : es.toList = xs.map (entV w)) (his : ∀ x ∈ xs, IsK h x.1 x.2.1)
    (hn : (xs.map (·.1)).Nodup) (hkey : IsK h k key) (hno : ∀ (j : Nat) (p : Value × Value), xs[j]? ≠ some (k, p)) : DictV w (h.update d (Obj.mapDictKeys (·.push ⟨k.hash w, key, v⟩))) d (storeV xs k key v) := by
  have hs := Heap.SameBut.update h d (Obj.mapDictKeys (·.push ⟨k.hash w, key, v⟩))
  refine ⟨_, _, ep + 1, Heap.get?_update_self _ ho (Obj.isFreed_of_dict (Obj.data_mapDictKeys hd _)), hc.mapDictKeys _, Obj.data_mapDictKeys hd _, ?_, ?_, ?_⟩
  · rw [storeV, if_neg (by rw [atV_none hno]; simp)]
    simp [he, entV]
  · rw [storeV, if_neg (by rw [atV_none hno]; simp)]
    intro x hx
    rcases List.mem_append.mp hx with hx | hx
    · exact (his x hx).sameBut ho hd hs
    · rw [List.mem_singleton.mp hx]
      exact hkey.sameBut ho hd hs
  · rw [storeV, if_neg (by rw [atV_none hno]; simp), List.map_append, List.nodup_append]
    refine ⟨hn, by simp, fun x hx y hy => ?_⟩
    simp only [List.map_cons, List.map_nil, List.mem_singleton] at hy
    subst hy
    exact fun e => nokey_mem hno (e ▸ hx)
theorem setK {v : Value} {Q : Unit → Shared → Prop} (hu : A.units + 8 < cLine) (hkey : IsK s.heap k key) (hm : DictV w s.heap d xs)
    (hQ : ∀ h', DictV w h' d (storeV xs k key v) → Heap.SameBut d s.heap h' → Q () { s with heap := h', toks := s.toks + k.draws })
    (hsz : xs.length ≤ sizeLine) :
    wpAny (model prog w) A (dictSet d key v) Q E s := by
  obtain ⟨o, es, ep, ho, hc, hd, he, his, hn⟩ := hm
  unfold dictSet
  try with_reducible refine wpAny_holding ?_
  refine wpAny_bind (hashK hu hkey ?_)
  unfold dictSetHashed
  try with_reducible refine wpAny_holding ?_
  refine wpAny_bind (findK (s := { s with toks := s.toks + k.draws }) hu hkey ho hd he his hn ⟨fun hno => ?_, fun j p hj => ?_⟩)
  · exact wpAny_bind (wpAny_rule (wpAny_updateDictKeys (hz := by have e := entV_size he; omega) (s := { s with toks := s.toks + k.draws }) ho hd
      (hQ _ (DictV.grown v ho hc hd he his hn hkey hno) (Heap.SameBut.update ..))))
  · have ey : atV xs k = some p.2 := atV_get hn hj
    refine wpAny_bind (wpAny_rule (wpAny_bind (wpAny_updateDict (s := { s with toks := s.toks + k.draws }) ho hd (wpAny_point (hQ _ ⟨_, _, ep, Heap.get?_update_self _ ho (Obj.isFreed_of_dict (Obj.data_mapDict hd _)),
      hc.mapDict _, Obj.data_mapDict hd _, ?_, ?_, ?_⟩ (Heap.SameBut.update ..))))))
    · rw [storeV, if_pos (by rw [ey]; rfl)]
      have q := modify_putV w k v hn hj
      rw [← he] at q
      obtain ⟨l⟩ := es
      simpa using q
    · rw [storeV, if_pos (by rw [ey]; rfl)]
      intro x hx
      obtain ⟨y, hy, rfl⟩ := List.mem_map.mp hx
      unfold putV
      split <;> exact (his y hy).sameBut ho hd (Heap.SameBut.update ..)
    · rw [storeV, if_pos (by rw [ey]; rfl), putV_keys]
      exact hn
theorem defaultK {dflt : Value} {Q : Value → Shared → Prop} (hu : A.units + 8 < cLine) (hkey : IsK s.heap k key) (hm : DictV w s.heap d xs)
    (h1 : ∀ v, atV xs k = some v → Q v { s with toks := s.toks + k.draws })
    (h2 : atV xs k = none → ∀ h', DictV w h' d (storeV xs k key dflt) → Heap.SameBut d s.heap h' → Q dflt { s with heap := h', toks := s.toks + k.draws })
    (hsz : xs.length ≤ sizeLine) :
    wpAny (model prog w) A (dictSetDefault d key dflt) Q E s := by
  obtain ⟨o, es, ep, ho, hc, hd, he, his, hn⟩ := hm
  unfold dictSetDefault
  try with_reducible refine wpAny_holding ?_
  refine wpAny_bind (hashK hu hkey ?_)
  refine wpAny_bind (findK (s := { s with toks := s.toks + k.draws }) hu hkey ho hd he his hn ⟨fun hno => ?_, fun j p hj => ?_⟩)
  · exact wpAny_bind (wpAny_rule (wpAny_bind (wpAny_updateDictKeys (hz := by have e := entV_size he; omega) (s := { s with toks := s.toks + k.draws }) ho hd
      (wpAny_pure (h2 (atV_none hno) _ (DictV.grown dflt ho hc hd he his hn hkey hno) (Heap.SameBut.update ..))))))
  · refine wpAny_bind (wpAny_dictEntries (s := { s with toks := s.toks + k.draws }) ho hd ?_)
    rw [entV_at he j, hj]
    exact wpAny_bind (wpAny_rule (wpAny_pure (h1 p.2 (atV_get hn hj))))

/-! ### the operations -/
theorem containsK {Q : Bool → Shared → Prop} (hu : A.in1.units + 8 < cLine) (hkey : IsK s.heap k key) (hd : (d == sysModules) = false) (hm : DictV w s.heap d xs)
    (h : Q (atV xs k).isSome { s with toks := s.toks + k.draws }) : wpAny (model prog w) A (contains (.ref d) key) Q E s := by
  refine wpAny_contains_slot hm.typeIs F.slot_dict_contains ?_
  refine call_meetsIn F.slot_dict_contains hm.typeIs F.entry_dict_contains (F.args_dict_contains_2 _ _) (S := fun A' R s' => A' = A ∧ s' = s ∧ R (.ok (.ret (.bool (atV xs k).isSome))) { s with toks := s.toks + k.draws }) (fun A' R s' hS => ?_) ⟨rfl, rfl, wpAny_truthy_bool h⟩
  obtain ⟨rfl, rfl, hq⟩ := hS
  show wpAny _ _ (dictGet d key >>= _) _ _ _
  refine wpAny_bind (getK hu hkey hm ?_)
  cases hf : atV xs k with
  | some p =>
    rw [hf] at hq
    show wpAny _ _ (ret (.bool true)) _ _ _
    exact wpAny_pure hq
  | none =>
    rw [hf] at hq
    show wpAny _ _ (Builtin.Dict.pendingKey? d key >>= _) _ _ _
    exact wpAny_bind (wpAny_pendingKey_other hd (wpAny_pure hq))
theorem inK {Q : Value → Shared → Prop} (hu : A.in1.units + 8 < cLine) (hkey : IsK s.heap k key) (hd : (d == sysModules) = false) (hm : DictV w s.heap d xs)
    (h : Q (.bool (atV xs k).isSome) { s with toks := s.toks + k.draws }) : wpAny (model prog w) A (compareOp .In key (.ref d)) Q E s := by
  show wpAny _ _ (do return .bool (← contains (.ref d) key)) Q E s
  exact wpAny_bind (containsK hu hkey hd hm (wpAny_pure h))
theorem notInK {Q : Value → Shared → Prop} (hu : A.in1.units + 8 < cLine) (hkey : IsK s.heap k key) (hd : (d == sysModules) = false) (hm : DictV w s.heap d xs)
    (h : Q (.bool (!(atV xs k).isSome)) { s with toks := s.toks + k.draws }) : wpAny (model prog w) A (compareOp .NotIn key (.ref d)) Q E s := by
  show wpAny _ _ (do return .bool (!(← contains (.ref d) key))) Q E s
  exact wpAny_bind (containsK hu hkey hd hm (wpAny_pure h))
theorem getItemK {v : Value} {Q : Value → Shared → Prop} (hu : A.in1.units + 8 < cLine) (hkey : IsK s.heap k key) (hm : DictV w s.heap d xs) (hv : atV xs k = some v)
    (h : Q v { s with toks := s.toks + k.draws }) : wpAny (model prog w) A (getItem (.ref d) key) Q E s := by
  unfold getItem
  try with_reducible refine wpAny_holding ?_
  refine wpAny_bind (wpAny_sequenceKey hm.typeIs (by decide) ?_)
  refine wpAny_bind (wpAny_callSpecial?_slot (name := Str.ofString "__getitem__") hm.typeIs slot_dict_getitem
    (wpAny_call_entry slot_dict_getitem hm.typeIs entry_dict_getitem ?_ (args_dict_getitem _ _)))
  show wpAny _ _ (dictGet d key >>= _) _ _ s
  refine wpAny_bind (getK hu hkey hm ?_)
  rw [hv]
  exact wpAny_pure ⟨v, rfl, wpAny_pure h⟩
theorem setItemK {v : Value} {Q : Unit → Shared → Prop} (hu : A.in1.units + 8 < cLine) (hkey : IsK s.heap k key) (hm : DictV w s.heap d xs)
    (hQ : ∀ h', DictV w h' d (storeV xs k key v) → Heap.SameBut d s.heap h' → Q () { s with heap := h', toks := s.toks + k.draws })
    (hsz : xs.length ≤ sizeLine) :
    wpAny (model prog w) A (setItem (.ref d) key v) Q E s := by
  unfold setItem
  try with_reducible refine wpAny_holding ?_
  refine wpAny_bind (wpAny_sequenceKey hm.typeIs (by decide) ?_)
  refine wpAny_bind (wpAny_callSpecial?_slot (name := Str.ofString "__setitem__") hm.typeIs slot_dict_setitem
    (wpAny_call_entry slot_dict_setitem hm.typeIs entry_dict_setitem ?_ (args_dict_setitem _ _ _)))
  show wpAny _ _ (Builtin.Dict.notOrdered "__setitem__" ⟨[.ref d, key, v], []⟩ >>= _) _ _ s
  refine wpAny_bind (wpAny_notOrdered_dict hm.typeIs ?_)
  show wpAny _ _ (dictSet d key v >>= _) _ _ s
  exact wpAny_bind (setK hu hkey hm (fun h' hm' hs' => wpAny_pure ⟨.none, rfl, wpAny_pure (hQ h' hm' hs')⟩) hsz)
theorem meetsK_get (hd : (d == sysModules) = false) (dflt : Value) :
    MeetsIn prog w (Builtin.«dict.get» ⟨[.ref d, key, dflt], []⟩) (fun A R s => A.in1.units + 8 < cLine ∧ ∃ k xs, IsK s.heap k key ∧ DictV w s.heap d xs ∧
      R (.ok (.ret ((atV xs k).getD dflt))) { s with toks := s.toks + k.draws }) :=
  .of_wp fun A R s ⟨hu, k, xs, hkey, hm, h⟩ => by
    show wpAny _ _ (dictGet d key >>= _) _ _ s
    refine wpAny_bind (getK hu hkey hm ?_)
    cases hf : atV xs k with
    | some v =>
      rw [hf] at h
      exact wpAny_pure ⟨v, rfl, h⟩
    | none =>
      rw [hf] at h
      show wpAny _ _ (Builtin.Dict.missed d key >>= _) _ _ _
      exact wpAny_bind (wpAny_missed_other hd (wpAny_pure ⟨dflt, rfl, h⟩))
theorem getOrK {x : Value} {Q : Value → Shared → Prop} (hu : A.in1.units + 8 < cLine) (hkey : IsK s.heap k key) (hd : (d == sysModules) = false) (hm : DictV w s.heap d xs)
    (h : Q ((atV xs k).getD x) { s with toks := s.toks + k.draws }) : wpAny (model prog w) A (call (.builtin "dict.get") [.ref d, key, x]) Q E s :=
  call_meetsIn F.slot_dict_get hm.typeIs F.entry_dict_get (F.args_dict_get_3 _ _ _) (meetsK_get hd x) ⟨hu, k, xs, hkey, hm, h⟩
theorem meetsK_setdefault (hd : (d == sysModules) = false) (dflt : Value) :
    MeetsIn prog w (Builtin.«dict.setdefault» ⟨[.ref d, key, dflt], []⟩) (fun A R s => A.in1.units + 8 < cLine ∧ ∃ k xs, IsK s.heap k key ∧ DictV w s.heap d xs ∧ xs.length ≤ sizeLine ∧
      (∀ v, atV xs k = some v → R (.ok (.ret v)) { s with toks := s.toks + k.draws }) ∧
      (atV xs k = none → ∀ h', DictV w h' d (storeV xs k key dflt) → Heap.SameBut d s.heap h' → R (.ok (.ret dflt)) { s with heap := h', toks := s.toks + k.draws })) :=
  .of_wp fun A R s ⟨hu, k, xs, hkey, hm, hz, h1, h2⟩ => by
    unfold Builtin.«dict.setdefault»
    refine wpAny_bind ?_
    unfold Builtin.Dict.keyAndDefault
    refine wpAny_bind (wpAny_notOrdered_dict hm.typeIs ?_)
    show wpAny _ _ (pure (d, key, some dflt)) _ _ s
    refine wpAny_pure ?_
    show wpAny _ _ (if (d == sysModules) = true then _ else (dictSetDefault d key dflt >>= _)) _ _ s
    rw [if_neg (by rw [hd]; exact Bool.false_ne_true)]
    exact wpAny_bind (defaultK hu hkey hm (fun v hv => wpAny_pure ⟨v, rfl, h1 v hv⟩) (fun hn h' hm' hs' => wpAny_pure ⟨dflt, rfl, h2 hn h' hm' hs'⟩) hz)
theorem setdefaultK {x : Value} {Q : Value → Shared → Prop} (hu : A.in1.units + 8 < cLine) (hkey : IsK s.heap k key) (hd : (d == sysModules) = false) (hm : DictV w s.heap d xs)
    (h1 : ∀ v, atV xs k = some v → Q v { s with toks := s.toks + k.draws })
    (h2 : atV xs k = none → ∀ h', DictV w h' d (storeV xs k key x) → Heap.SameBut d s.heap h' → Q x { s with heap := h', toks := s.toks + k.draws }) (hsz : xs.length ≤ sizeLine) :
    wpAny (model prog w) A (call (.builtin "dict.setdefault") [.ref d, key, x]) Q E s :=
  call_meetsIn F.slot_dict_setdefault hm.typeIs F.entry_dict_setdefault (F.args_dict_setdefault_3 _ _ _) (meetsK_setdefault hd x) ⟨hu, k, xs, hkey, hm, hsz, h1, h2⟩
end
end Wp
/-! Dicts of mixed keys as tracked objects of the hand layer. -/
namespace Wp
open PySem PySem.Spec PyProof.Rows L2

/-- the dict's own object -/
def nobj (w : World) (d : Addr) (xs : List Ent) : Heap → Prop := fun h => ∃ o es ep, h.get? d = some o ∧ o.ExactDict ∧ o.data = .dict es ep ∧ es.toList = xs.map (entV w)
/-- what the keys are -/
def Okk (k : NK) : Prop := k.depth ≤ 8 ∧ ((∃ x, k = .text x) ∨ ∃ ks, k = .tup ks)
/-- extension -/
def Ex (H H' : Hp) : Prop := ∀ a o, H a = some o → H' a = some o
theorem Ex.refl (H : Hp) : Ex H H := fun _ _ h => h
theorem Ex.trans {H H1 H2 : Hp} (a : Ex H H1) (b : Ex H1 H2) : Ex H H2 := fun x o h => b x o (a x o h)
theorem Ex.new {H : Hp} {p : Addr} {o : HO} (h : H p = none) : Ex H (upd H p o) := fun a u e => by
  rw [upd_ne (ne_of_none e h)]
  exact e
theorem Ex.mut {H H' : Hp} {p : Addr} {o : HO} (e : Ex H H') (h : H p = none) : Ex H (upd H' p o) := fun a u ha => by
  rw [upd_ne (ne_of_none ha h)]
  exact e a u ha
theorem Ex.rd {H H' : Hp} {a : Addr} {u : HO} (e : Ex H H') (h : Rd H a u) : Rd H' a u := by
  rcases h with h | ⟨o, h⟩
  · exact .inl (e a _ h)
  · exact .inr ⟨o, e a _ h⟩
theorem Ex.l {K : PySem.W.Frag} {H H' : Hp} {a : Addr} {xs : List V} (e : Ex H H') (h : SqL K H a xs) : SqL K H' a xs := h.elim (fun q => .inl (e.rd q)) .inr
theorem Ex.t {K : PySem.W.Frag} {H H' : Hp} {a : Addr} {xs : List V} (e : Ex H H') (h : SqT K H a xs) : SqT K H' a xs := h.elim (fun q => .inl (e.rd q)) .inr
theorem Ex.free {H H' : Hp} {p : Addr} (e : Ex H H') (h : H' p = none) : H p = none := by
  cases q : H p with
  | none => rfl
  | some o =>
    rw [e p o q] at h
    cases h
mutual
theorem Dp.ex {K : PySem.W.Frag} {H H' : Hp} (e : Ex H H') : ∀ (d : PyData) (v : V), Dp K H v d → Dp K H' v d
  | .none, _, h => by cases h; exact .non
  | .bool _, _, h => by cases h; exact .bl _
  | .int _, _, h => by cases h; exact .int _
  | .str _, _, h => by cases h; exact .str _
  | .list ds, _, h => by
    cases h with
    | lst a b => exact .lst (e.l a) (DpAll.ex e ds _ b)
  | .tuple ds, _, h => by
    cases h with
    | tup a b => exact .tup (e.t a) (DpAll.ex e ds _ b)
  | .dict _, _, h => by cases h
theorem DpAll.ex {K : PySem.W.Frag} {H H' : Hp} (e : Ex H H') : ∀ (ds : List PyData) (vs : List V), DpAll K H vs ds → DpAll K H' vs ds
  | [], _, h => by cases h; exact .nil
  | d :: ds, _, h => by
    cases h with
    | cons a b => exact .cons (Dp.ex e d _ a) (DpAll.ex e ds _ b)
end
section
variable {X : Cx} {pins : List (Addr × Obj)} {σ : L2.St} {H : Hp} {s : Shared}
mutual
theorem nk_is (I : Inv X pins σ H s) : ∀ (k : NK) (v : V) (u : Value), Dp X.K H v k.data → RelV v u → NestedIs s.heap k u
  | .none, _, _, h, r => by
    simp only [NestedKey.data] at h
    cases h; cases r
    exact .none
  | .num i, _, _, h, r => by
    simp only [NestedKey.data] at h
    cases h
    obtain ⟨t, rfl⟩ := r
    exact .int i t
  | .text x, _, _, h, r => by
    simp only [NestedKey.data] at h
    cases h
    obtain ⟨t, rfl⟩ := r
    exact .text x t
  | .tup ks, _, _, h, r => by
    simp only [NestedKey.data] at h
    cases h with
    | tup hs ha =>
      cases r
      obtain ⟨its, rv, ⟨o, ho, hc, n, hd⟩, _⟩ := I.tuple hs
      exact .tup ho hc hd (by simpa using nk_all I ks _ its ha rv)
theorem nk_all (I : Inv X pins σ H s) : ∀ (ks : List NK) (vs : List V) (us : List Value), DpAll X.K H vs (NestedKey.datas ks) → Vals vs us → NestedAll s.heap ks us
  | [], _, _, h, r => by
    simp only [NestedKey.datas] at h
    cases h; cases r
    exact .nil
  | k :: ks, _, _, h, r => by
    simp only [NestedKey.datas] at h
    cases h with
    | cons h1 h2 =>
      cases r with
      | cons r1 r2 => exact .cons (nk_is I k _ _ h1 r1) (nk_all I ks _ _ h2 r2)
end
theorem key_is (I : Inv X pins σ H s) {k : NK} {v : V} {u : Value} (ok : Okk k) (h : Dp X.K H v k.data) (r : RelV v u) : IsK s.heap k u := by
  refine ⟨nk_is I k v u h r, ok.1, ?_⟩
  rcases ok.2 with ⟨x, rfl⟩ | ⟨ks, rfl⟩
  · simp only [NestedKey.data] at h
    cases h
    obtain ⟨t, rfl⟩ := r
    exact .inl ⟨_, _, rfl⟩
  · simp only [NestedKey.data] at h
    cases h
    cases r
    exact .inr ⟨_, rfl⟩
end

/-- an entry -/
def EntOk (K : PySem.W.Frag) (F : Hp) (p : NK × V) (x : Ent) : Prop := p.1 = x.1 ∧ (∃ kv, RelV kv x.2.1 ∧ Dp K F kv p.1.data) ∧ Okk p.1 ∧ RelV p.2 x.2.2
/-- at d stands the dict kvs, its keys' tuples stand in F -/
def ND (w : World) (K : PySem.W.Frag) (F H : Hp) (d : Addr) (kvs : List (NK × V)) : Prop :=
  ∃ xs : List Ent, H d = some (.ext (nobj w d xs)) ∧ Paired (EntOk K F) kvs xs ∧ (kvs.map (·.1)).Nodup ∧ (d == sysModules) = false ∧ kvs.length ≤ 100000
theorem ND.exF {w : World} {K : PySem.W.Frag} {F F' H : Hp} {d : Addr} {kvs : List (NK × V)} (e : Ex F F') (h : ND w K F H d kvs) : ND w K F' H d kvs := by
  obtain ⟨xs, a, b, c⟩ := h
  exact ⟨xs, a, Paired.mapP b fun p x ⟨h1, ⟨kv, h2, h3⟩, h4⟩ => ⟨h1, ⟨kv, h2, Dp.ex e _ _ h3⟩, h4⟩, c⟩
theorem ND.ex {w : World} {K : PySem.W.Frag} {F H H' : Hp} {d : Addr} {kvs : List (NK × V)} (e : Ex H H') (h : ND w K F H d kvs) : ND w K F H' d kvs := by
  obtain ⟨xs, a, b⟩ := h
  exact ⟨xs, e _ _ a, b⟩
theorem ND.at {w : World} {K : PySem.W.Frag} {F H H' : Hp} {d : Addr} {kvs : List (NK × V)} (e : H' d = H d) (h : ND w K F H d kvs) : ND w K F H' d kvs := by
  obtain ⟨xs, a, b⟩ := h
  exact ⟨xs, e.trans a, b⟩

section
variable {K : PySem.W.Frag} {F : Hp}
theorem ents_at {kvs : List (NK × V)} {xs : List Ent} (r : Paired (EntOk K F) kvs xs) (k : NK) : RelO (valV kvs k) (atV xs k) := by
  induction r with
  | nil => exact True.intro
  | @cons p q ps qs h t ih =>
    obtain ⟨h1, _, _, h2⟩ := h
    by_cases e : p.1 = k
    · have e' : q.1 = k := h1.symm.trans e
      have b : atV (q :: qs) k = some q.2.2 := by simp [atV, List.find?_cons, e']
      rw [valV_pos e, b]; exact h2
    · have e' : ¬ q.1 = k := fun z => e (h1.trans z)
      have b : atV (q :: qs) k = atV qs k := by simp [atV, List.find?_cons, e']
      rw [valV_neg e, b]; exact ih
theorem ents_keys {kvs : List (NK × V)} {xs : List Ent} (r : Paired (EntOk K F) kvs xs) : kvs.map (·.1) = xs.map (·.1) := by
  induction r with
  | nil => rfl
  | cons h t ih => rw [List.map_cons, List.map_cons, ih, h.1]
theorem ents_put {kvs : List (NK × V)} {xs : List Ent} (r : Paired (EntOk K F) kvs xs) {k : NK} {kv y : V} {key u : Value} (ok : Okk k) (rk : RelV kv key) (dk : Dp K F kv k.data) (ry : RelV y u) :
    Paired (EntOk K F) (putK kvs k y) (storeV xs k key u) := by
  have e : (kvs.any fun kv => decide (kv.1 = k)) = (atV xs k).isSome := by rw [valV_any, (ents_at r k).isSome_eq]
  unfold putK storeV
  rw [e]
  by_cases q : (atV xs k).isSome = true
  · rw [if_pos q, if_pos q]
    clear e q
    induction r with
    | nil => exact .nil
    | @cons p x ps xs h t ih =>
      rw [List.map_cons, List.map_cons]
      refine .cons ?_ ih
      obtain ⟨h1, h2, h3, h4⟩ := h
      unfold putV
      by_cases e : p.1 = k
      · rw [if_pos e, if_pos (h1.symm.trans e)]; exact ⟨h1, h2, h3, ry⟩
      · rw [if_neg e, if_neg (fun z => e (h1.trans z))]; exact ⟨h1, h2, h3, h4⟩
  · rw [if_neg q, if_neg q]
    exact Paired.snoc r ⟨rfl, ⟨kv, rk, dk⟩, ok, ry⟩
theorem put_nodup {kvs : List (NK × V)} {k : NK} {y : V} (h : (kvs.map (·.1)).Nodup) : ((putK kvs k y).map (·.1)).Nodup := by
  cases q : valV kvs k with
  | none => exact nd_putK y h q
  | some v =>
    unfold putK
    rw [valV_any, q]
    show ((kvs.map fun kv => if kv.1 = k then (kv.1, y) else kv).map (·.1)).Nodup
    have e : (kvs.map fun kv => if kv.1 = k then (kv.1, y) else kv).map (·.1) = kvs.map (·.1) := by
      rw [List.map_map]
      refine List.map_congr_left fun p _ => ?_
      show (if p.1 = k then (p.1, y) else p).1 = p.1
      split <;> rfl
    rw [e]
    exact h
end

section
variable {X : Cx} {pins : List (Addr × Obj)} {σ : L2.St} {H : Hp} {s : Shared} {F : Hp} {d : Addr} {kvs : List (NK × V)}
theorem ents_is (I : Inv X pins σ H s) (e : Ex F H) {xs : List Ent} (r : Paired (EntOk X.K F) kvs xs) : ∀ x ∈ xs, IsK s.heap x.1 x.2.1 := by
  induction r with
  | nil => intro x hx; cases hx
  | @cons p q ps qs h t ih =>
    intro x hx
    rcases List.mem_cons.mp hx with ex | hx
    · obtain ⟨h1, ⟨kv, h2, h3⟩, h4, h5⟩ := h
      rw [ex, ← h1]
      exact key_is I h4 (Dp.ex e _ _ h3) h2
    · exact ih x hx
/-- the dict in the machine's heap -/
theorem nd_in (I : Inv X pins σ H s) (e : Ex F H) {xs : List Ent} (ha : H d = some (.ext (nobj X.w d xs))) (r : Paired (EntOk X.K F) kvs xs) (hn : (kvs.map (·.1)).Nodup) : DictV X.w s.heap d xs := by
  obtain ⟨⟨o, es, ep, ho, hc, hd, he⟩, _⟩ := (I.hok d _ ha : ObjOk X.prog X.w H s.heap d (.ext (nobj X.w d xs)))
  exact ⟨o, es, ep, ho, hc, hd, he, ents_is I e r, ents_keys r ▸ hn⟩
theorem nobj_ok {P : Program} {w : World} {h : Heap} {xs : List Ent} (q : DictV w h d xs) : ObjOk P w H h d (.ext (nobj w d xs)) := by
  obtain ⟨o, es, ep, ho, hc, hd, he, _⟩ := q
  refine ⟨⟨o, es, ep, ho, hc, hd, he⟩, ⟨o, ho⟩, fun h1 h2 ⟨o1, es1, ep1, a1, a2, a3, a4⟩ k => ⟨o1, es1, ep1, k _ a1, a2, a3, a4⟩⟩
theorem nd_line (h : kvs.length ≤ 100000) : kvs.length ≤ sizeLine := Nat.le_trans h (by decide)
theorem nd_len {xs : List Ent} (r : Paired (EntOk X.K F) kvs xs) (h : kvs.length ≤ 100000) : xs.length ≤ sizeLine := by
  rw [← Paired.length r]
  exact nd_line h
/-- the dict written -/
theorem nd_put (I : Inv X pins σ H s) (e : Ex F H) {xs : List Ent} (ha : H d = some (.ext (nobj X.w d xs))) {h' : Heap} {ys : List Ent} {t : Nat} (hm : DictV X.w h' d ys) (hs : Heap.SameBut d s.heap h') :
    Inv X pins σ (upd H d (.ext (nobj X.w d ys))) { s with heap := h', toks := t } := by
  have ho : ∃ u, h'.get? d = some u := by
    obtain ⟨o, _, _, q, _⟩ := hm
    exact ⟨o, q⟩
  refine I.write (by rw [ha]; trivial) (.inl rfl) (fun b u hb q => (hs.2 b hb).trans q) ho (nobj_ok hm)
end

/-! ### the rules -/
section
variable {X : Cx}
/-- the key k is the value y; the dict at d is kvs -/
structure KD (w : World) (K : PySem.W.Frag) (F H : Hp) (d : Addr) (kvs : List (NK × V)) (k : NK) (y : V) : Prop where
  ex : Ex F H
  nd : ND w K F H d kvs
  key : Dp K F y k.data
  ok : Okk k
def rNIn (w : World) (K : PySem.W.Frag) : R2 := fun x y H Q => ∃ F d kvs k, y = .ref d ∧ KD w K F H d kvs k x ∧ Q (.bl (valV kvs k).isSome) H
def rNNotIn (w : World) (K : PySem.W.Frag) : R2 := fun x y H Q => ∃ F d kvs k, y = .ref d ∧ KD w K F H d kvs k x ∧ Q (.bl (!(valV kvs k).isSome)) H
theorem units1 {A : Around} (hu : A.units + 64 < cLine) : A.in1.units + 8 < cLine := by
  rw [Around.in1_units]
  omega
theorem op_nin (hu : X.A.units + 64 < cLine) : OpR X (compareOp .In) (rNIn X.w X.K) := by
  intro pins s σ H x y v u Q I rx ry h
  obtain ⟨F, d, kvs, k, rfl, kd, q⟩ := h
  cases ry
  obtain ⟨xs, ha, r, hn, hd, hl⟩ := kd.nd
  refine inK (units1 hu) (key_is I kd.ok (Dp.ex kd.ex _ _ kd.key) rx) hd (nd_in I kd.ex ha r hn) ?_
  rw [← (ents_at r k).isSome_eq]
  exact ⟨.bl _, H, I.tok _, rfl, q⟩
theorem op_nnotin (hu : X.A.units + 64 < cLine) : OpR X (compareOp .NotIn) (rNNotIn X.w X.K) := by
  intro pins s σ H x y v u Q I rx ry h
  obtain ⟨F, d, kvs, k, rfl, kd, q⟩ := h
  cases ry
  obtain ⟨xs, ha, r, hn, hd, hl⟩ := kd.nd
  refine notInK (units1 hu) (key_is I kd.ok (Dp.ex kd.ex _ _ kd.key) rx) hd (nd_in I kd.ex ha r hn) ?_
  rw [← (ents_at r k).isSome_eq]
  exact ⟨.bl _, H, I.tok _, rfl, q⟩
def rNGet (w : World) (K : PySem.W.Frag) : R2 := fun x y H Q => ∃ F d kvs k v, x = .ref d ∧ KD w K F H d kvs k y ∧ valV kvs k = some v ∧ Q v H
theorem get_n (hu : X.A.units + 64 < cLine) : PGet X (rNGet X.w X.K) := by
  intro pins s σ H x y v u Q I rx ry h
  obtain ⟨F, d, kvs, k, z, rfl, kd, hz, q⟩ := h
  cases rx
  obtain ⟨xs, ha, r, hn, hd, hl⟩ := kd.nd
  have ra := ents_at r k
  rw [hz] at ra
  cases e : atV xs k with
  | none => rw [e] at ra; exact ra.elim
  | some z' =>
    rw [e] at ra
    exact getItemK (units1 hu) (key_is I kd.ok (Dp.ex kd.ex _ _ kd.key) ry) (nd_in I kd.ex ha r hn) e ⟨z, H, I.tok _, ra, q⟩
theorem nd_type {pins : List (Addr × Obj)} {σ : L2.St} {H : Hp} {s : Shared} {d : Addr} {xs : List Ent} (I : Inv X pins σ H s) (ha : H d = some (.ext (nobj X.w d xs))) : s.TypeIs (.ref d) "dict" ∧ ∀ a, Value.ref d = .ref a → ∃ ob, s.heap.get? a = some ob ∧ ob.dict = none := by
  obtain ⟨⟨o, es, ep, ho, hc, _⟩, _⟩ := (I.hok d _ ha : ObjOk X.prog X.w H s.heap d (.ext (nobj X.w d xs)))
  refine ⟨⟨o, ho, hc.1⟩, fun a e => ?_⟩
  cases e
  exact ⟨o, ho, hc.2.1⟩
theorem ix_n (hu : X.A.units + 64 < cLine) : IxR X (rNGet X.w X.K) := by
  intro value slice pins s σ H x y v u Q I rx ry h hs
  have hw := get_n hu pins s σ H x y v u Q I rx ry h
  obtain ⟨F, d, kvs, k, z, rfl, kd, hz, q⟩ := h
  cases rx
  obtain ⟨xs, ha, r, hn, hd, hl⟩ := kd.nd
  exact tail_any (nd_type I ha).1 slot_dict_getitem.lookup hw hs
def rNSet (w : World) (K : PySem.W.Frag) : TSet := fun o i v H Q => ∃ F d kvs k, o = .ref d ∧ KD w K F H d kvs k i ∧ F d = none ∧ kvs.length < 100000 ∧ ∀ u, ND w K F (upd H d u) d (putK kvs k v) → Q (upd H d u)
theorem set_n (hu : X.A.units + 64 < cLine) : PSet X (rNSet X.w X.K) := by
  intro pins s σ H o i v ov iv u Q I ro ri rv h
  obtain ⟨F, d, kvs, k, rfl, kd, hF, hl2, q⟩ := h
  cases ro
  obtain ⟨xs, ha, r, hn, hd, hl⟩ := kd.nd
  refine setItemK (units1 hu) (key_is I kd.ok (Dp.ex kd.ex _ _ kd.key) ri) (nd_in I kd.ex ha r hn) (fun h' hm hs => ?_) (nd_len r hl)
  refine ⟨_, nd_put I kd.ex ha hm hs, q _ ⟨_, upd_same, ents_put r kd.ok ri kd.key rv, put_nodup hn, hd, ?_⟩⟩
  have := length_putK kvs k v
  omega
def rNGetOr (w : World) (K : PySem.W.Frag) : V → List V → Hp → VK → Prop := fun x xs H Q => ∃ F d kvs k y z, x = .ref d ∧ xs = [y, z] ∧ KD w K F H d kvs k y ∧ Q ((valV kvs k).getD z) H
theorem mt_nget (hu : X.A.units + 64 < cLine) : MtR X "dict.get" (rNGetOr X.w X.K) := by
  intro pins s σ H x xs v us Q I rx rs h
  obtain ⟨F, d, kvs, k, y, z, rfl, rfl, kd, q⟩ := h
  cases rx
  obtain ⟨uy, uz, rfl, ry, rz⟩ := vals2 rs
  obtain ⟨es, ha, r, hn, hd, hl⟩ := kd.nd
  exact getOrK (units1 hu) (key_is I kd.ok (Dp.ex kd.ex _ _ kd.key) ry) hd (nd_in I kd.ex ha r hn) ⟨_, H, I.tok _, (ents_at r k).getD rz, q⟩
def rNDflt (w : World) (K : PySem.W.Frag) : V → List V → Hp → VK → Prop := fun x xs H Q => ∃ F d kvs k y z, x = .ref d ∧ xs = [y, z] ∧ KD w K F H d kvs k y ∧ F d = none ∧ kvs.length < 100000 ∧
  (∀ v, valV kvs k = some v → Q v H) ∧ (valV kvs k = none → ∀ u, ND w K F (upd H d u) d (putK kvs k z) → Q z (upd H d u))
theorem mt_ndflt (hu : X.A.units + 64 < cLine) : MtR X "dict.setdefault" (rNDflt X.w X.K) := by
  intro pins s σ H x xs v us Q I rx rs h
  obtain ⟨F, d, kvs, k, y, z, rfl, rfl, kd, hF, hl2, q1, q2⟩ := h
  cases rx
  obtain ⟨uy, uz, rfl, ry, rz⟩ := vals2 rs
  obtain ⟨es, ha, r, hn, hd, hl⟩ := kd.nd
  have ra := ents_at r k
  refine setdefaultK (units1 hu) (key_is I kd.ok (Dp.ex kd.ex _ _ kd.key) ry) hd (nd_in I kd.ex ha r hn) (fun u hv => ?_) (fun hv h' hm hs => ?_) (nd_len r hl)
  · rw [hv] at ra
    cases e : valV kvs k with
    | none => rw [e] at ra; exact ra.elim
    | some z' =>
      rw [e] at ra
      exact ⟨z', H, I.tok _, ra, q1 z' e⟩
  · rw [hv] at ra
    have e : valV kvs k = none := by
      cases e : valV kvs k with
      | none => rfl
      | some z' => rw [e] at ra; exact ra.elim
    refine ⟨z, _, nd_put I kd.ex ha hm hs, rz, q2 e _ ⟨_, upd_same, ents_put r kd.ok ry kd.key rz, put_nodup hn, hd, ?_⟩⟩
    have := length_putK kvs k z
    omega
/-- a method of such a dict -/
def tNM (w : World) (r : V → List V → Hp → VK → Prop) (to : TE) (t : TA) : TE := fun σ H Q => to σ H fun x H1 => (∃ d xs, x = .ref d ∧ H1 d = some (.ext (nobj w d xs))) ∧ t σ H1 fun xs H2 => r x xs H2 Q
variable {o e : Expr} {es : List Expr} {to : TE} {t : TA} {name : Str} {apos cpos : Pos} {id : String} {r : V → List V → Hp → VK → Prop}
theorem pe_nm (pa : PlainAttrs "dict") (slot : Slot "dict" name id) (hty : typeOf (.builtin id) = pure (.type "method_descriptor")) (hm : MtR X id r) (ho : PE X o to) (ha : PA X (e :: es) t)
    (hbase : attributeBase o name X.env (eval o X.env) = eval o X.env := by rfl)
    (hfew : ((backTo cpos (starEach (e :: es) X.env)).all (fun x => !x.1) && (backToKw cpos (keywordEach [] X.env)).all (fun x => x.1.isSome)
      && decide ((e :: es).length + ([] : List Keyword).length + (if ([] : List Keyword).isEmpty then 0 else 1) < 30)) = true := by rfl)
    (hline : (apos.endLine == cpos.line) = true := by rfl) (hs : starEach (e :: es) X.env = (false, eval e X.env) :: starEach es X.env := by rfl) (hplain : (backTo cpos (starEach es X.env)).any (·.1) = false := by rfl) :
    PE X (.Call (.Attribute o name apos) (e :: es) [] cpos) (tNM X.w r to t) := by
  refine ⟨fun pins s σ H Q I h => ?_⟩
  refine wpAny_Call_method_late hbase hfew hline rfl (thn (ho.run pins s σ H _ I h) fun v s1 ⟨x, H1, I1, r1, ⟨d, xs, ex, ty⟩, q1⟩ => ?_)
  subst ex
  cases r1
  obtain ⟨h1, h2⟩ := nd_type I1 ty
  refine ⟨"dict", id, pa, slot, hty, h1, h2, ?_⟩
  have hA := ha.run cpos pins s1 σ H1 _ I1 q1
  rw [hs] at hA ⊢
  refine Calls.callWith_builtin (by show (false || (backTo cpos (starEach es X.env)).any (·.1)) = false; rw [hplain] <;> rfl) (Calls.evalArgs_plain ?_)
  exact thn hA fun us s2 ⟨vs, H2, I2, r2, q2⟩ => hm pins s2 σ H2 (.ref d) vs _ us Q I2 rfl r2 q2
/-- {} -/
def tNew (w : World) : TE := fun _ H Q => ∀ p, H p = none → (p == sysModules) = false → Q (.ref p) (upd H p (.ext (nobj w p [])))
theorem pe_nnew {pos : Pos} : PE X (.Dict [] [] pos) (tNew X.w) := by
  refine ⟨fun pins s σ H Q I h => ?_⟩
  have hn : H s.heap.objs.size = none := I.hok.fresh (Nat.le_refl _)
  have hb : (s.heap.objs.size == sysModules) = false := beq_eq_false_iff_ne.mpr (Nat.ne_of_gt I.big)
  refine wpAny_Dict_empty ⟨.ref s.heap.objs.size, _, ?_, rfl, h _ hn hb⟩
  exact I.laid (t' := s.toks) (fun b o e => Heap.get?_push_of_some _ e) (Nat.le_refl _) (nobj_ok (DictV.new s.heap))
end
theorem ND.empty {w : World} {K : PySem.W.Frag} {F H : Hp} {p : Addr} (h : (p == sysModules) = false) : ND w K F (upd H p (.ext (nobj w p []))) p [] := ⟨[], upd_same, .nil, List.nodup_nil, h, Nat.zero_le _⟩
end Wp
/-! The data layer: what a reading does where values are data that stand frozen (F within H), and lists of one's own that grow. -/
namespace Wp
open PySem PySem.Spec PyProof.Rows L2

/-! ### worlds -/
structure Grow (F H F' H' : Hp) : Prop where
  f : Ex F F'
  h : Ex F' H'
  hh : Ex H H'
  new : ∀ a, F' a ≠ none → F a ≠ none ∨ H a = none
theorem Grow.refl {F H : Hp} (e : Ex F H) : Grow F H F H := ⟨Ex.refl F, e, Ex.refl H, fun _ h => .inl h⟩
theorem Grow.trans {F H F1 H1 F2 H2 : Hp} (a : Grow F H F1 H1) (b : Grow F1 H1 F2 H2) : Grow F H F2 H2 := by
  refine ⟨a.f.trans b.f, b.h, a.hh.trans b.hh, fun p h => ?_⟩
  rcases b.new p h with q | q
  · exact a.new p q
  · exact .inr (a.hh.free q)
/-- a new frozen object -/
theorem Grow.add {F H : Hp} {p : Addr} {o : HO} (e : Ex F H) (h : H p = none) : Grow F H (upd F p o) (upd H p o) := by
  have hf : F p = none := e.free h
  refine ⟨Ex.new hf, fun a u q => ?_, Ex.new h, fun a q => ?_⟩
  · by_cases z : a = p
    · subst z
      rw [upd_same] at q ⊢
      exact q
    · rw [upd_ne z] at q ⊢
      exact e a u q
  · by_cases z : a = p
    · exact .inr (z ▸ h)
    · rw [upd_ne z] at q
      exact .inl q
/-- what was not frozen and is there stays so -/
theorem Grow.own {F H F' H' : Hp} (g : Grow F H F' H') {p : Addr} {o : HO} (h1 : F p = none) (h2 : H p = some o) : F' p = none ∧ H' p = some o := by
  refine ⟨?_, g.hh p o h2⟩
  cases q : F' p with
  | none => rfl
  | some u =>
    rcases g.new p (by rw [q]; exact fun z => nomatch z) with r | r
    · exact absurd h1 r
    · rw [h2] at r
      cases r

/-! ### data whose lists are plain tracked lists -/
mutual
inductive Dq (K : PySem.W.Frag) (H : Hp) : V → PyData → Prop
  | non : Dq K H .non .none
  | bl (b : Bool) : Dq K H (.bl b) (.bool b)
  | int (i : Int) : Dq K H (.int i) (.int i)
  | str (x : Str) : Dq K H (.str x) (.str x)
  | lst {a : Addr} {xs : List V} {ds : List PyData} : H a = some (.lst xs) → DqAll K H xs ds → Dq K H (.ref a) (.list ds)
  | tup {a : Addr} {xs : List V} {ds : List PyData} : SqT K H a xs → DqAll K H xs ds → Dq K H (.ref a) (.tuple ds)
inductive DqAll (K : PySem.W.Frag) (H : Hp) : List V → List PyData → Prop
  | nil : DqAll K H [] []
  | cons {v : V} {vs : List V} {d : PyData} {ds : List PyData} : Dq K H v d → DqAll K H vs ds → DqAll K H (v :: vs) (d :: ds)
end
mutual
theorem Dq.ex {K : PySem.W.Frag} {H H' : Hp} (e : Ex H H') : ∀ (d : PyData) (v : V), Dq K H v d → Dq K H' v d
  | .none, _, h => by cases h; exact .non
  | .bool _, _, h => by cases h; exact .bl _
  | .int _, _, h => by cases h; exact .int _
  | .str _, _, h => by cases h; exact .str _
  | .list ds, _, h => by
    cases h with
    | lst a b => exact .lst (e _ _ a) (DqAll.ex e ds _ b)
  | .tuple ds, _, h => by
    cases h with
    | tup a b => exact .tup (e.t a) (DqAll.ex e ds _ b)
  | .dict _, _, h => by cases h
theorem DqAll.ex {K : PySem.W.Frag} {H H' : Hp} (e : Ex H H') : ∀ (ds : List PyData) (vs : List V), DqAll K H vs ds → DqAll K H' vs ds
  | [], _, h => by cases h; exact .nil
  | d :: ds, _, h => by
    cases h with
    | cons a b => exact .cons (Dq.ex e d _ a) (DqAll.ex e ds _ b)
end
mutual
theorem Dq.dp {K : PySem.W.Frag} {H : Hp} : ∀ (d : PyData) (v : V), Dq K H v d → Dp K H v d
  | .none, _, h => by cases h; exact .non
  | .bool _, _, h => by cases h; exact .bl _
  | .int _, _, h => by cases h; exact .int _
  | .str _, _, h => by cases h; exact .str _
  | .list ds, _, h => by
    cases h with
    | lst a b => exact .lst (SqL.of a) (DqAll.dp ds _ b)
  | .tuple ds, _, h => by
    cases h with
    | tup a b => exact .tup a (DqAll.dp ds _ b)
  | .dict _, _, h => by cases h
theorem DqAll.dp {K : PySem.W.Frag} {H : Hp} : ∀ (ds : List PyData) (vs : List V), DqAll K H vs ds → DpAll K H vs ds
  | [], _, h => by cases h; exact .nil
  | d :: ds, _, h => by
    cases h with
    | cons a b => exact .cons (Dq.dp d _ a) (DqAll.dp ds _ b)
end
theorem DqAll.len {K : PySem.W.Frag} {H : Hp} : ∀ {vs : List V} {ds : List PyData}, DqAll K H vs ds → vs.length = ds.length
  | _, [], h => by cases h; rfl
  | _, _ :: _, h => by
    cases h with
    | cons a b => rw [List.length_cons, List.length_cons, DqAll.len b]
theorem DqAll.app {K : PySem.W.Frag} {H : Hp} : ∀ {vs us : List V} {ds es : List PyData}, DqAll K H vs ds → DqAll K H us es → DqAll K H (vs ++ us) (ds ++ es)
  | _, _, [], _, h, k => by cases h; exact k
  | _, _, _ :: _, _, h, k => by
    cases h with
    | cons a b => exact .cons a (DqAll.app b k)
theorem DqAll.get {K : PySem.W.Frag} {H : Hp} : ∀ {vs : List V} {ds : List PyData} {i : Nat} {d : PyData}, DqAll K H vs ds → ds[i]? = some d → ∃ v, vs[i]? = some v ∧ Dq K H v d
  | _, [], _, _, _, e => by simp at e
  | _, _ :: _, 0, _, h, e => by
    cases h with
    | cons a b =>
      have e' := Option.some.inj e
      subst e'
      exact ⟨_, rfl, a⟩
  | _, _ :: ds, i + 1, d, h, e => by
    cases h with
    | cons a b =>
      obtain ⟨v, e1, q⟩ := DqAll.get (i := i) (d := d) b e
      exact ⟨v, e1, q⟩
theorem DqAll.take {K : PySem.W.Frag} {H : Hp} : ∀ (n : Nat) {vs : List V} {ds : List PyData}, DqAll K H vs ds → DqAll K H (vs.take n) (ds.take n)
  | 0, _, _, _ => .nil
  | _ + 1, _, [], h => by cases h; exact .nil
  | n + 1, _, _ :: _, h => by
    cases h with
    | cons a b => exact .cons a (DqAll.take n b)
theorem DqAll.drop {K : PySem.W.Frag} {H : Hp} : ∀ (n : Nat) {vs : List V} {ds : List PyData}, DqAll K H vs ds → DqAll K H (vs.drop n) (ds.drop n)
  | 0, _, _, h => h
  | _ + 1, _, [], h => by cases h; exact .nil
  | n + 1, _, _ :: _, h => by
    cases h with
    | cons a b => exact DqAll.drop n b

/-- a property of a value in a frozen heap, kept where it grows -/
structure MP where
  P : Hp → V → Prop
  mono : ∀ {F F' : Hp} {v : V}, Ex F F' → P F v → P F' v
def dat (K : PySem.W.Frag) (d : PyData) : MP := ⟨fun F v => Dq K F v d, fun e h => Dq.ex e d _ h⟩

/-- attributes -/
def FsOk (F : Hp) : List (Str × V) → List (Str × MP) → Prop := Paired fun p q => p.1 = q.1 ∧ q.2.P F p.2
theorem FsOk.ex {F F' : Hp} (e : Ex F F') {vs : List (Str × V)} {fs : List (Str × MP)} (h : FsOk F vs fs) : FsOk F' vs fs := Paired.mapP h fun _ q z => ⟨z.1, q.2.mono e z.2⟩
/-- dicts: what each key is -/
def RelM (F : Hp) : Option V → Option MP → Prop
  | some v, some m => m.P F v
  | none, none => True
  | _, _ => False
theorem RelM.ex {F F' : Hp} (e : Ex F F') : ∀ {v : Option V} {m : Option MP}, RelM F v m → RelM F' v m
  | some _, some m, h => m.mono e h
  | none, none, _ => True.intro
  | some _, none, h => h.elim
  | none, some _, h => h.elim
structure DctAt (K : PySem.W.Frag) (w : World) (F : Hp) (p : Addr) (f : NK → Option MP) (n : Nat) (xs : List Ent) (kvs : List (NK × V)) : Prop where
  ents : Paired (EntOk K F) kvs xs
  nd : (kvs.map (·.1)).Nodup
  sys : (p == sysModules) = false
  few : kvs.length ≤ n
  at' : ∀ k, RelM F (valV kvs k) (f k)
theorem DctAt.ex {K : PySem.W.Frag} {w : World} {F F' : Hp} (e : Ex F F') {p : Addr} {f : NK → Option MP} {n : Nat} {xs : List Ent} {kvs : List (NK × V)} (h : DctAt K w F p f n xs kvs) : DctAt K w F' p f n xs kvs :=
  ⟨Paired.mapP h.ents fun p x ⟨h1, ⟨kv, h2, h3⟩, h4⟩ => ⟨h1, ⟨kv, h2, Dp.ex e _ _ h3⟩, h4⟩, h.nd, h.sys, h.few, fun k => (h.at' k).ex e⟩
/-- what one owns: a list, the instance at x, a dict -/
inductive Ow where
  | lst (ds : List PyData)
  | ins (x C : Addr) (fs : List (Str × MP))
  | dct (w : World) (f : NK → Option MP) (n : Nat)
def OwOk (K : PySem.W.Frag) (F : Hp) (p : Addr) : Ow → HO → Prop
  | .lst ds, .lst vs => DqAll K F vs ds
  | .ins x C fs, .ins C' _ vs => p = x ∧ C' = C ∧ FsOk F vs fs
  | .dct w f n, h => ∃ xs kvs, h = .ext (nobj w p xs) ∧ DctAt K w F p f n xs kvs
  | _, _ => False
/-- a frozen dict -/
def mdM (K : PySem.W.Frag) (w : World) (f : NK → Option MP) (n : Nat) : MP := ⟨fun F v => ∃ d xs kvs, v = .ref d ∧ F d = some (.ext (nobj w d xs)) ∧ DctAt K w F d f n xs kvs, fun e ⟨d, xs, kvs, a, b, c⟩ => ⟨d, xs, kvs, a, e _ _ b, c.ex e⟩⟩
theorem OwOk.ex {K : PySem.W.Frag} {F F' : Hp} {p : Addr} (e : Ex F F') {o : Ow} {h : HO} (x : OwOk K F p o h) : OwOk K F' p o h := by
  cases o with
  | lst ds => cases h <;> first | exact DqAll.ex e _ _ x | exact x.elim
  | ins y C fs => cases h <;> first | exact ⟨x.1, x.2.1, FsOk.ex e x.2.2⟩ | exact x.elim
  | dct w f n =>
    unfold OwOk at x ⊢
    obtain ⟨xs, kvs, e1, e2⟩ := x
    exact ⟨xs, kvs, e1, e2.ex e⟩
def insM (C : Addr) (fs : List (Str × MP)) : MP := ⟨fun F v => ∃ p dx vs, v = .ref p ∧ F p = some (.ins C dx vs) ∧ FsOk F vs fs, fun e ⟨p, dx, vs, a, b, c⟩ => ⟨p, dx, vs, a, e _ _ b, c.ex e⟩⟩
def owM (K : PySem.W.Frag) : Ow → MP
  | .lst ds => dat K (.list ds)
  | .ins _ C fs => insM C fs
  | .dct w f n => mdM K w f n
theorem owM_ok {K : PySem.W.Frag} {F : Hp} {o : Ow} {h : HO} {p : Addr} (x : OwOk K F p o h) (e : F p = some h) : (owM K o).P F (.ref p) := by
  cases o with
  | lst ds =>
    cases h with
    | lst vs => exact Dq.lst e x
    | _ => exact x.elim
  | ins y C fs =>
    cases h with
    | ins C' dx vs =>
      obtain ⟨_, rfl, q⟩ := x
      exact ⟨p, dx, vs, rfl, e, q⟩
    | _ => exact x.elim
  | dct w f n =>
    unfold OwOk at x
    obtain ⟨xs, kvs, e1, e2⟩ := x
    exact ⟨p, xs, kvs, rfl, e1 ▸ e, e2⟩

inductive Sl where
  | d (m : MP)
  | own (o : Ow)
abbrev AS := List (Option Sl)

def SlOk (K : PySem.W.Frag) (H0 F H : Hp) (v : V) : Sl → Prop
  | .d m => m.P F v
  | .own o => ∃ p h, v = .ref p ∧ H0 p = none ∧ F p = none ∧ H p = some h ∧ OwOk K F p o h

structure Wd (K : PySem.W.Frag) (F0 H0 : Hp) (A : AS) (σ : L2.St) (F H : Hp) : Prop where
  grow : Grow F0 H0 F H
  len : A.length = σ.length
  sl : ∀ (i : Nat) (x : Sl), A[i]? = some (some x) → ∃ v, σ[i]? = some (some v) ∧ SlOk K H0 F H v x
  dist : ∀ (i j : Nat) (ds es : Ow) (p : Addr), A[i]? = some (some (.own ds)) → A[j]? = some (some (.own es)) → σ[i]? = some (some (.ref p)) → σ[j]? = some (some (.ref p)) → i = j

theorem SlOk.grow {K : PySem.W.Frag} {H0 F H F' H' : Hp} {v : V} {x : Sl} (g : Grow F H F' H') (h : SlOk K H0 F H v x) : SlOk K H0 F' H' v x := by
  cases x with
  | d m => exact m.mono g.f h
  | own ds =>
    obtain ⟨p, vs, e, a, b, c, d⟩ := h
    obtain ⟨b', c'⟩ := g.own b c
    exact ⟨p, vs, e, a, b', c', d.ex g.f⟩
theorem Wd.go {K : PySem.W.Frag} {F0 H0 F H F' H' : Hp} {A : AS} {σ : L2.St} (w : Wd K F0 H0 A σ F H) (g : Grow F H F' H') : Wd K F0 H0 A σ F' H' :=
  ⟨w.grow.trans g, w.len, fun i x e => let ⟨v, a, b⟩ := w.sl i x e; ⟨v, a, b.grow g⟩, w.dist⟩
/-- the base frozen part may be taken later -/
theorem Wd.base {K : PySem.W.Frag} {F0 H0 F H : Hp} {A : AS} {σ : L2.St} (w : Wd K F0 H0 A σ F H) : Wd K F H0 A σ F H :=
  ⟨⟨Ex.refl F, w.grow.h, w.grow.hh, fun _ h => .inl h⟩, w.len, w.sl, w.dist⟩
theorem Wd.unbase {K : PySem.W.Frag} {F0 H0 F H F' H' : Hp} {A' : AS} {σ' : L2.St} (g : Grow F0 H0 F H) (w : Wd K F H0 A' σ' F' H') : Wd K F0 H0 A' σ' F' H' := by
  refine ⟨⟨g.f.trans w.grow.f, w.grow.h, w.grow.hh, fun a h => ?_⟩, w.len, w.sl, w.dist⟩
  rcases w.grow.new a h with q | q
  · exact g.new a q
  · exact .inr q
theorem get_set {α : Type} {l : List α} {i j : Nat} {x y : α} (h : (l.set i x)[j]? = some y) : (i = j ∧ y = x ∧ j < l.length) ∨ (i ≠ j ∧ l[j]? = some y) := by
  by_cases e : i = j
  · subst e
    by_cases hl : i < l.length
    · rw [List.getElem?_set_self hl] at h
      exact .inl ⟨rfl, (Option.some.inj h).symm, hl⟩
    · rw [List.getElem?_eq_none (by rw [List.length_set]; omega)] at h
      cases h
  · rw [List.getElem?_set_ne e] at h
    exact .inr ⟨e, h⟩
/-- a slot takes a frozen value -/
theorem Wd.set {K : PySem.W.Frag} {F0 H0 F H : Hp} {A : AS} {σ : L2.St} (w : Wd K F0 H0 A σ F H) {i : Nat} {m : MP} {v : V} (h : m.P F v) : Wd K F0 H0 (A.set i (some (.d m))) (σ.set i (some v)) F H := by
  refine ⟨w.grow, by rw [List.length_set, List.length_set]; exact w.len, fun j x e => ?_, fun j k ds es p e1 e2 s1 s2 => ?_⟩
  · rcases get_set e with ⟨rfl, q, hl⟩ | ⟨ne, q⟩
    · cases q
      refine ⟨v, ?_, h⟩
      rw [List.getElem?_set_self (by rw [← w.len]; exact hl)]
    · obtain ⟨u, a, b⟩ := w.sl j x q
      exact ⟨u, by rw [List.getElem?_set_ne ne]; exact a, b⟩
  · rcases get_set e1 with ⟨_, q, _⟩ | ⟨n1, q1⟩
    · cases q
    · rcases get_set e2 with ⟨_, q, _⟩ | ⟨n2, q2⟩
      · cases q
      · rw [List.getElem?_set_ne n1] at s1
        rw [List.getElem?_set_ne n2] at s2
        exact w.dist j k ds es p q1 q2 s1 s2
/-- a slot is forgotten -/
theorem Wd.drop {K : PySem.W.Frag} {F0 H0 F H : Hp} {A : AS} {σ : L2.St} (w : Wd K F0 H0 A σ F H) {i : Nat} (x : Option V) : Wd K F0 H0 (A.set i none) (σ.set i x) F H := by
  refine ⟨w.grow, by rw [List.length_set, List.length_set]; exact w.len, fun j x e => ?_, fun j k ds es p e1 e2 s1 s2 => ?_⟩
  · rcases get_set e with ⟨rfl, q, hl⟩ | ⟨ne, q⟩
    · cases q
    · obtain ⟨u, a, b⟩ := w.sl j x q
      exact ⟨u, by rw [List.getElem?_set_ne ne]; exact a, b⟩
  · rcases get_set e1 with ⟨_, q, _⟩ | ⟨n1, q1⟩
    · cases q
    · rcases get_set e2 with ⟨_, q, _⟩ | ⟨n2, q2⟩
      · cases q
      · rw [List.getElem?_set_ne n1] at s1
        rw [List.getElem?_set_ne n2] at s2
        exact w.dist j k ds es p q1 q2 s1 s2
/-- a slot takes a new list of one's own -/
theorem Wd.fresh {K : PySem.W.Frag} {F0 H0 F H : Hp} {A : AS} {σ : L2.St} (w : Wd K F0 H0 A σ F H) {i : Nat} {p : Addr} {vs : HO} {ds : Ow} (hp : H p = none) (hd : OwOk K F p ds vs) :
    Wd K F0 H0 (A.set i (some (.own ds))) (σ.set i (some (.ref p))) F (upd H p vs) := by
  have hF : F p = none := w.grow.h.free hp
  have h0 : H0 p = none := w.grow.hh.free hp
  refine ⟨⟨w.grow.f, w.grow.h.mut hF, w.grow.hh.trans (Ex.new hp), w.grow.new⟩, by rw [List.length_set, List.length_set]; exact w.len, fun j x e => ?_, fun j k es fs q e1 e2 s1 s2 => ?_⟩
  · rcases get_set e with ⟨rfl, q, hl⟩ | ⟨ne, q⟩
    · cases q
      exact ⟨.ref p, by rw [List.getElem?_set_self (by rw [← w.len]; exact hl)], p, vs, rfl, h0, hF, upd_same, hd⟩
    · obtain ⟨u, a, b⟩ := w.sl j x q
      refine ⟨u, by rw [List.getElem?_set_ne ne]; exact a, ?_⟩
      cases x with
      | d m => exact b
      | own es =>
        obtain ⟨p', vs', e', a', b', c', d'⟩ := b
        exact ⟨p', vs', e', a', b', by rw [upd_ne (ne_of_none c' hp)]; exact c', d'⟩
  · have no : ∀ (k : Nat) (es : Ow), A[k]? = some (some (.own es)) → σ[k]? = some (some (.ref p)) → False := fun k es a b => by
      obtain ⟨v, s, p', vs', e', _, _, c', _⟩ := w.sl k _ a
      rw [s] at b
      cases b
      cases e'
      rw [c'] at hp
      cases hp
    rcases get_set e1 with ⟨z1, q1, l1⟩ | ⟨n1, q1⟩
    · rcases get_set e2 with ⟨z2, q2, l2⟩ | ⟨n2, q2⟩
      · rw [← z1, ← z2]
      · rw [← z1, List.getElem?_set_self (by rw [← w.len, z1]; exact l1)] at s1
        cases s1
        rw [List.getElem?_set_ne n2] at s2
        exact (no k fs q2 s2).elim
    · rcases get_set e2 with ⟨z2, q2, l2⟩ | ⟨n2, q2⟩
      · rw [← z2, List.getElem?_set_self (by rw [← w.len, z2]; exact l2)] at s2
        cases s2
        rw [List.getElem?_set_ne n1] at s1
        exact (no j es q1 s1).elim
      · rw [List.getElem?_set_ne n1] at s1
        rw [List.getElem?_set_ne n2] at s2
        exact w.dist j k es fs q q1 q2 s1 s2
/-- a list of one's own is changed -/
theorem Wd.write {K : PySem.W.Frag} {F0 H0 F H : Hp} {A : AS} {σ : L2.St} (w : Wd K F0 H0 A σ F H) {i : Nat} {p : Addr} {ds es : Ow} {vs : HO} (ha : A[i]? = some (some (.own ds))) (hs : σ[i]? = some (some (.ref p)))
    (hd : OwOk K F p es vs) : Wd K F0 H0 (A.set i (some (.own es))) σ F (upd H p vs) := by
  obtain ⟨v, s, p', vs', e', h0, hF, hH, _⟩ := w.sl i _ ha
  rw [hs] at s
  cases s
  cases e'
  have hl : i < A.length := (List.getElem?_eq_some_iff.mp ha).1
  refine ⟨⟨w.grow.f, w.grow.h.mut hF, w.grow.hh.mut h0, w.grow.new⟩, by rw [List.length_set]; exact w.len, fun j x e => ?_, fun j k fs gs q e1 e2 s1 s2 => ?_⟩
  · rcases get_set e with ⟨rfl, q, _⟩ | ⟨ne, q⟩
    · cases q
      exact ⟨.ref p, hs, p, vs, rfl, h0, hF, upd_same, hd⟩
    · obtain ⟨u, a, b⟩ := w.sl j x q
      refine ⟨u, a, ?_⟩
      cases x with
      | d m => exact b
      | own gs =>
        obtain ⟨p', vs', e', a', b', c', d'⟩ := b
        refine ⟨p', vs', e', a', b', ?_, d'⟩
        rw [upd_ne fun z => ?_]
        · exact c'
        · subst z
          rw [e'] at a
          exact ne (w.dist i j ds gs p' ha q hs a)
  · have back : ∀ (k : Nat) (fs : Ow), (A.set i (some (.own es)))[k]? = some (some (.own fs)) → ∃ fs', A[k]? = some (some (.own fs')) := fun k fs e => by
      rcases get_set e with ⟨rfl, _, _⟩ | ⟨_, q⟩
      · exact ⟨ds, ha⟩
      · exact ⟨fs, q⟩
    obtain ⟨_, a⟩ := back j fs e1
    obtain ⟨_, b⟩ := back k gs e2
    exact w.dist j k _ _ q a b s1 s2
/-- a list of one's own is frozen from here on -/
theorem Wd.freeze {K : PySem.W.Frag} {F0 H0 F H : Hp} {A : AS} {σ : L2.St} (w : Wd K F0 H0 A σ F H) {i : Nat} {ds : Ow} (ha : A[i]? = some (some (.own ds))) :
    ∃ p vs, σ[i]? = some (some (.ref p)) ∧ F p = none ∧ H p = some vs ∧ OwOk K F p ds vs ∧ Wd K F0 H0 (A.set i (some (.d (owM K ds)))) σ (upd F p vs) H := by
  obtain ⟨v, s, p, vs, e', h0, hF, hH, hd⟩ := w.sl i _ ha
  subst e'
  have hl : i < A.length := (List.getElem?_eq_some_iff.mp ha).1
  refine ⟨p, vs, s, hF, hH, hd, ⟨w.grow.f.trans (Ex.new hF), fun a u q => ?_, w.grow.hh, fun a q => ?_⟩, by rw [List.length_set]; exact w.len, fun j x e => ?_, fun j k fs gs q e1 e2 s1 s2 => ?_⟩
  · by_cases z : a = p
    · subst z
      rw [upd_same] at q
      rw [hH, q]
    · rw [upd_ne z] at q
      exact w.grow.h a u q
  · by_cases z : a = p
    · exact .inr (z ▸ h0)
    · rw [upd_ne z] at q
      exact w.grow.new a q
  · rcases get_set e with ⟨rfl, q, _⟩ | ⟨ne, q⟩
    · cases q
      exact ⟨.ref p, s, owM_ok (hd.ex (Ex.new hF)) upd_same⟩
    · obtain ⟨u, a, b⟩ := w.sl j x q
      refine ⟨u, a, ?_⟩
      cases x with
      | d m => exact m.mono (Ex.new hF) b
      | own gs =>
        obtain ⟨p', vs', e', a', b', c', d'⟩ := b
        refine ⟨p', vs', e', a', ?_, c', d'.ex (Ex.new hF)⟩
        rw [upd_ne fun z => ?_]
        · exact b'
        · subst z
          rw [e'] at a
          exact ne (w.dist i j ds gs p' ha q s a)
  · rcases get_set e1 with ⟨_, q1, _⟩ | ⟨n1, q1⟩
    · cases q1
    · rcases get_set e2 with ⟨_, q2, _⟩ | ⟨n2, q2⟩
      · cases q2
      · exact w.dist j k fs gs q q1 q2 s1 s2

/-! ### readings over data -/
section
variable (K : PySem.W.Frag)
def EvP (te : TE) (A : AS) (P : MP → Prop) : Prop := ∀ F0 H0 σ F H, Wd K F0 H0 A σ F H → ∀ Q : VK, (∀ v m F' H', Grow F H F' H' → m.P F' v → P m → Q v H') → te σ H Q
/-- several values -/
def MPs (F : Hp) : List V → List MP → Prop := Paired fun v m => m.P F v
def EvA (ta : TA) (A : AS) (P : List MP → Prop) : Prop := ∀ F0 H0 σ F H, Wd K F0 H0 A σ F H → ∀ Q : List V → Hp → Prop, (∀ vs ms F' H', Grow F H F' H' → MPs F' vs ms → P ms → Q vs H') → ta σ H Q
def EvT (tt : TT) (A : AS) (P : Bool → Prop) : Prop := ∀ F0 H0 σ F H, Wd K F0 H0 A σ F H → ∀ Q : Bool → Hp → Prop, (∀ b F' H', Grow F H F' H' → P b → Q b H') → tt σ H Q
/-- a list that is new -/
def EvN (te : TE) (A : AS) (P : List PyData → Prop) : Prop := ∀ F0 H0 σ F H, Wd K F0 H0 A σ F H → ∀ Q : VK, (∀ p vs ds F' H', Grow F H F' H' → H' p = none → DqAll K F' vs ds → P ds → Q (.ref p) (upd H' p (.lst vs))) → te σ H Q
structure AE where
  nx : AS → Prop
  rt : MP → Prop
  bk : AS → Prop := fun _ => False
  ct : AS → Prop := fun _ => False
  rn : Ow → Prop := fun _ => False
structure AEok (F0 H0 : Hp) (D : Ends) (E : AE) : Prop where
  nx : ∀ A σ F H, Wd K F0 H0 A σ F H → E.nx A → D.nx σ H
  rt : ∀ v m F H, Grow F0 H0 F H → m.P F v → E.rt m → D.rt v H
  bk : ∀ A σ F H, Wd K F0 H0 A σ F H → E.bk A → D.bk σ H
  ct : ∀ A σ F H, Wd K F0 H0 A σ F H → E.ct A → D.ct σ H
  rn : ∀ p h o F H, Grow F0 H0 F H → H0 p = none → F p = none → H p = some h → OwOk K F p o h → E.rn o → D.rt (.ref p) H
def ASt (ts : TS) (A : AS) (E : AE) : Prop := ∀ F0 H0 σ F H D, Wd K F0 H0 A σ F H → AEok K F0 H0 D E → ts D σ H
end
section
variable {K : PySem.W.Frag} {te ta tb : TE} {A : AS} {P P' : MP → Prop}
theorem MPs.grow {F F' : Hp} (e : Ex F F') {vs : List V} {ms : List MP} (h : MPs F vs ms) : MPs F' vs ms := Paired.mapP h fun _ m q => m.mono e q
theorem EvP.mono (h : EvP K te A P) (q : ∀ m, P m → P' m) : EvP K te A P' := fun F0 H0 σ F H w Q k => h F0 H0 σ F H w Q fun v m F' H' g r p => k v m F' H' g r (q m p)
theorem EvN.p {P : List PyData → Prop} (h : EvN K te A P) : EvP K te A (fun m => ∃ ds, m = dat K (.list ds) ∧ P ds) := fun F0 H0 σ F H w Q k =>
  h F0 H0 σ F H w Q fun p vs ds F' H' g hp hd hP => by
    have g2 : Grow F' H' (upd F' p (.lst vs)) (upd H' p (.lst vs)) := Grow.add g.h hp
    exact k _ _ _ _ (g.trans g2) (Dq.lst upd_same (DqAll.ex g2.f _ _ hd)) ⟨ds, rfl, hP⟩
end
end Wp
/-! The rules of the data layer. -/
namespace Wp
open PySem PySem.Spec PyProof.Rows L2
section
variable (K : PySem.W.Frag)
abbrev dI (i : Int) : MP := dat K (.int i)
abbrev dS (x : Str) : MP := dat K (.str x)
abbrev dB (b : Bool) : MP := dat K (.bool b)
abbrev dN : MP := dat K .none
abbrev dL (ds : List PyData) : MP := dat K (.list ds)
abbrev dT (ds : List PyData) : MP := dat K (.tuple ds)
/-- an operation on values, read over data -/
def ROk (r : R2) (m n : MP) (P : MP → Prop) : Prop := ∀ F H x y, Ex F H → m.P F x → n.P F y → ∀ Q : VK, (∀ v k F' H', Grow F H F' H' → k.P F' v → P k → Q v H') → r x y H Q
def UOk (r : V → Hp → VK → Prop) (m : MP) (P : MP → Prop) : Prop := ∀ F H x, Ex F H → m.P F x → ∀ Q : VK, (∀ v k F' H', Grow F H F' H' → k.P F' v → P k → Q v H') → r x H Q
def COk (r : List V → Hp → VK → Prop) (ms : List MP) (P : MP → Prop) : Prop := ∀ F H xs, Ex F H → MPs F xs ms → ∀ Q : VK, (∀ v k F' H', Grow F H F' H' → k.P F' v → P k → Q v H') → r xs H Q
def MOk (r : V → List V → Hp → VK → Prop) (m : MP) (ms : List MP) (P : MP → Prop) : Prop := ∀ F H x xs, Ex F H → m.P F x → MPs F xs ms → ∀ Q : VK, (∀ v k F' H', Grow F H F' H' → k.P F' v → P k → Q v H') → r x xs H Q
def SOk (r : V → Option Int → Option Int → Hp → VK → Prop) (m : MP) (lo hi : Option Int) (P : MP → Prop) : Prop := ∀ F H x, Ex F H → m.P F x → ∀ Q : VK, (∀ v k F' H', Grow F H F' H' → k.P F' v → P k → Q v H') → r x lo hi H Q
def EvO (to : TO) (A : AS) (P : Option Int → Prop) : Prop := ∀ F0 H0 σ F H, Wd K F0 H0 A σ F H → ∀ Q : Option Int → Hp → Prop, (∀ o F' H', Grow F H F' H' → P o → Q o H') → to σ H Q
end
section
variable {K : PySem.W.Frag} {te ta tb tc : TE} {A : AS} {P P' : MP → Prop} {t u : TT} {B : Bool → Prop}

/-! ### data seen -/
theorem p_int {F : Hp} {v : V} {i : Int} (h : (dI K i).P F v) : v = .int i := by
  have h' : Dq K F v (.int i) := h
  cases h'; rfl
theorem p_str {F : Hp} {v : V} {x : Str} (h : (dS K x).P F v) : v = .str x := by
  have h' : Dq K F v (.str x) := h
  cases h'; rfl
theorem p_bl {F : Hp} {v : V} {b : Bool} (h : (dB K b).P F v) : v = .bl b := by
  have h' : Dq K F v (.bool b) := h
  cases h'; rfl
theorem p_non {F : Hp} {v : V} (h : (dN K).P F v) : v = .non := by
  have h' : Dq K F v .none := h
  cases h'; rfl
theorem p_lst {F : Hp} {v : V} {ds : List PyData} (h : (dL K ds).P F v) : ∃ a xs, v = .ref a ∧ F a = some (.lst xs) ∧ DqAll K F xs ds := by
  have h' : Dq K F v (.list ds) := h
  cases h' with
  | lst a b => exact ⟨_, _, rfl, a, b⟩
theorem p_tup {F : Hp} {v : V} {ds : List PyData} (h : (dT K ds).P F v) : ∃ a xs, v = .ref a ∧ SqT K F a xs ∧ DqAll K F xs ds := by
  have h' : Dq K F v (.tuple ds) := h
  cases h' with
  | tup a b => exact ⟨_, _, rfl, a, b⟩
theorem i_int {F : Hp} (i : Int) : (dI K i).P F (.int i) := Dq.int i
theorem i_str {F : Hp} (x : Str) : (dS K x).P F (.str x) := Dq.str x
theorem i_bl {F : Hp} (b : Bool) : (dB K b).P F (.bl b) := Dq.bl b
theorem i_non {F : Hp} : (dN K).P F .non := Dq.non
theorem mps1 {F : Hp} {xs : List V} {m : MP} (h : MPs F xs [m]) : ∃ x, xs = [x] ∧ m.P F x := by
  cases h with
  | cons a b => cases b; exact ⟨_, rfl, a⟩
theorem mps2 {F : Hp} {xs : List V} {m n : MP} (h : MPs F xs [m, n]) : ∃ x y, xs = [x, y] ∧ m.P F x ∧ n.P F y := by
  cases h with
  | cons a b =>
    obtain ⟨y, e, c⟩ := mps1 b
    exact ⟨_, y, by rw [e], a, c⟩
/-- items as MPs -/
theorem mps_all {F : Hp} : ∀ {ds : List PyData} {vs : List V}, MPs F vs (ds.map (dat K)) → DqAll K F vs ds
  | [], _, h => by cases h; exact .nil
  | _ :: _, _, h => by
    cases h with
    | cons a b => exact .cons a (mps_all b)

/-! ### expressions -/
theorem evp_var {i : Nat} {m : MP} (h : A[i]? = some (some (.d m))) (q : P m) : EvP K (tVar i) A P := fun F0 H0 σ F H w Q k => by
  obtain ⟨v, a, b⟩ := w.sl i _ h
  exact ⟨v, a, k v m F H (Grow.refl w.grow.h) b q⟩
theorem evp_int {i : Int} (q : P (dI K i)) : EvP K (tC (.int i)) A P := fun F0 H0 σ F H w Q k => k _ _ F H (Grow.refl w.grow.h) (i_int i) q
theorem evp_str {x : Str} (q : P (dS K x)) : EvP K (tC (.str x)) A P := fun F0 H0 σ F H w Q k => k _ _ F H (Grow.refl w.grow.h) (i_str x) q
theorem evp_bl {b : Bool} (q : P (dB K b)) : EvP K (tC (.bl b)) A P := fun F0 H0 σ F H w Q k => k _ _ F H (Grow.refl w.grow.h) (i_bl b) q
theorem evp_non (q : P (dN K)) : EvP K (tC .non) A P := fun F0 H0 σ F H w Q k => k _ _ F H (Grow.refl w.grow.h) i_non q
theorem evp_op {r : R2} (h : EvP K ta A fun m => EvP K tb A fun n => ROk r m n P) : EvP K (tOp r ta tb) A P := fun F0 H0 σ F H w Q k => by
  refine h F0 H0 σ F H w _ fun x m F1 H1 g1 p1 h1 => ?_
  refine h1 F0 H0 σ F1 H1 (w.go g1) _ fun y n F2 H2 g2 p2 h2 => ?_
  exact h2 F2 H2 x y g2.h (m.mono g2.f p1) p2 Q fun v l F3 H3 g3 p3 q => k v l F3 H3 (g1.trans (g2.trans g3)) p3 q
theorem evp_un {r : V → Hp → VK → Prop} (h : EvP K ta A fun m => UOk r m P) : EvP K (tUn r ta) A P := fun F0 H0 σ F H w Q k => by
  refine h F0 H0 σ F H w _ fun x m F1 H1 g1 p1 h1 => ?_
  exact h1 F1 H1 x g1.h p1 Q fun v l F3 H3 g3 p3 q => k v l F3 H3 (g1.trans g3) p3 q
theorem eva_nil {P : List MP → Prop} (q : P []) : EvA K tNil A P := fun F0 H0 σ F H w Q k => k [] [] F H (Grow.refl w.grow.h) .nil q
theorem eva_cons {tr : TA} {P : List MP → Prop} (h : EvP K ta A fun m => EvA K tr A fun ms => P (m :: ms)) : EvA K (tCons ta tr) A P := fun F0 H0 σ F H w Q k => by
  refine h F0 H0 σ F H w _ fun x m F1 H1 g1 p1 h1 => ?_
  refine h1 F0 H0 σ F1 H1 (w.go g1) _ fun xs ms F2 H2 g2 p2 h2 => ?_
  exact k (x :: xs) (m :: ms) F2 H2 (g1.trans g2) (.cons (m.mono g2.f p1) p2) h2
theorem evp_cb {r : List V → Hp → VK → Prop} {ta : TA} (h : EvA K ta A fun ms => COk r ms P) : EvP K (tCB r ta) A P := fun F0 H0 σ F H w Q k => by
  refine h F0 H0 σ F H w _ fun xs ms F1 H1 g1 p1 h1 => ?_
  exact h1 F1 H1 xs g1.h p1 Q fun v l F3 H3 g3 p3 q => k v l F3 H3 (g1.trans g3) p3 q
/-- a built-in's method -/
def TyOk (K : PySem.W.Frag) (T : String) (m : MP) : Prop := ∀ F H x, Ex F H → m.P F x → tyV K T x H
theorem evp_bm {T : String} {r : V → List V → Hp → VK → Prop} {ta : TA} (h : EvP K te A fun m => TyOk K T m ∧ EvA K ta A fun ms => MOk r m ms P) : EvP K (tBM K T r te ta) A P := fun F0 H0 σ F H w Q k => by
  refine h F0 H0 σ F H w _ fun x m F1 H1 g1 p1 ⟨ty, h1⟩ => ⟨ty F1 H1 x g1.h p1, ?_⟩
  refine h1 F0 H0 σ F1 H1 (w.go g1) _ fun xs ms F2 H2 g2 p2 h2 => ?_
  exact h2 F2 H2 x xs g2.h (m.mono g2.f p1) p2 Q fun v l F3 H3 g3 p3 q => k v l F3 H3 (g1.trans (g2.trans g3)) p3 q
theorem ty_str {x : Str} : TyOk K "str" (dS K x) := fun F H v _ p => by rw [p_str p]; exact rfl
theorem ty_lst {ds : List PyData} : TyOk K "list" (dL K ds) := fun F H v e p => by
  obtain ⟨a, xs, rfl, h, _⟩ := p_lst p
  exact .inl ⟨rfl, xs, SqL.of (e _ _ h)⟩
theorem evo_none {P : Option Int → Prop} (q : P none) : EvO K tNoPart A P := fun F0 H0 σ F H w Q k => k none F H (Grow.refl w.grow.h) q
theorem evo_some {P : Option Int → Prop} (h : EvP K te A fun m => ∃ i, m = dI K i ∧ P (some i)) : EvO K (tPart te) A P := fun F0 H0 σ F H w Q k => by
  refine h F0 H0 σ F H w _ fun x m F1 H1 g1 p1 ⟨i, e, q⟩ => ?_
  subst e
  exact ⟨i, p_int p1, k (some i) F1 H1 g1 q⟩
theorem evp_sl {r : V → Option Int → Option Int → Hp → VK → Prop} {tl th : TO} (h : EvP K te A fun m => EvO K tl A fun lo => EvO K th A fun hi => SOk r m lo hi P) : EvP K (tSl r te tl th) A P := fun F0 H0 σ F H w Q k => by
  refine h F0 H0 σ F H w _ fun x m F1 H1 g1 p1 h1 => ?_
  refine h1 F0 H0 σ F1 H1 (w.go g1) _ fun lo F2 H2 g2 h2 => ?_
  refine h2 F0 H0 σ F2 H2 (w.go (g1.trans g2)) _ fun hi F3 H3 g3 h3 => ?_
  exact h3 F3 H3 x g3.h (m.mono (g2.trans g3).f p1) Q fun v l F4 H4 g4 p4 q => k v l F4 H4 (g1.trans (g2.trans (g3.trans g4))) p4 q
/-- a tuple, a list made of data -/
theorem mps_data {F : Hp} {ds : List PyData} {vs : List V} {ms : List MP} (e : ms = ds.map (dat K)) (h : MPs F vs ms) : DqAll K F vs ds := mps_all (e ▸ h)
theorem evp_tup {ta : TA} (h : EvA K ta A fun ms => ∃ ds, ms = ds.map (dat K) ∧ ds.length ≤ 100000 ∧ P (dT K ds)) : EvP K (tTup ta) A P := fun F0 H0 σ F H w Q k => by
  refine h F0 H0 σ F H w _ fun xs ms F1 H1 g1 p1 ⟨ds, e, hl, q⟩ => ?_
  have hd := mps_data e p1
  refine ⟨?_, fun p hp => ?_⟩
  · rw [hd.len]
    exact Nat.le_trans hl (by decide)
  · have g2 : Grow F1 H1 (upd F1 p (.tup xs)) (upd H1 p (.tup xs)) := Grow.add g1.h hp
    exact k _ _ _ _ (g1.trans g2) (Dq.tup (SqT.of upd_same) (DqAll.ex g2.f _ _ hd)) q
theorem evn_lst {ta : TA} {P : List PyData → Prop} (h : EvA K ta A fun ms => ∃ ds, ms = ds.map (dat K) ∧ ds.length ≤ 100000 ∧ P ds) : EvN K (tLst ta) A P := fun F0 H0 σ F H w Q k => by
  refine h F0 H0 σ F H w _ fun xs ms F1 H1 g1 p1 ⟨ds, e, hl, q⟩ => ?_
  have hd := mps_data e p1
  refine ⟨?_, fun p hp => k p xs ds F1 H1 g1 hp hd q⟩
  rw [hd.len]
  exact Nat.le_trans hl (by decide)
theorem evn_p {P' : MP → Prop} (h : EvN K te A fun ds => P' (dL K ds)) : EvP K te A P' := h.p.mono fun m ⟨ds, e, q⟩ => e ▸ q
theorem fs_look {F : Hp} {vs : List (Str × V)} {fs : List (Str × MP)} {f : Str} {n : MP} (h : FsOk F vs fs) (e : fs.lookup f = some n) : ∃ v, vs.lookup f = some v ∧ n.P F v := by
  induction h with
  | nil => simp at e
  | @cons a b l l' hab t ih =>
    obtain ⟨a1, a2⟩ := a
    obtain ⟨b1, b2⟩ := b
    obtain ⟨e1, e2⟩ := hab
    have e1 : a1 = b1 := e1
    subst e1
    rw [List.lookup_cons] at e ⊢
    cases z : f == a1 with
    | true =>
      rw [z] at e
      cases e
      exact ⟨a2, rfl, e2⟩
    | false =>
      rw [z] at e
      exact ih e
/-- a field of an instance -/
theorem evp_fld {f : Str} (h : EvP K te A fun m => ∃ C fs n, m = insM C fs ∧ Cls K C ∧ NoAttr K C f ∧ fs.lookup f = some n ∧ P n) : EvP K (tFld K te f) A P := fun F0 H0 σ F H w Q k => by
  refine h F0 H0 σ F H w _ fun x m F1 H1 g1 p1 ⟨C, fs, n, e, hc, hn, hl, q⟩ => ?_
  subst e
  obtain ⟨p, dx, vs, rfl, hp, hf⟩ := p1
  have look := fs_look hf hl
  obtain ⟨v, hv, hP⟩ := look
  exact ⟨p, C, dx, vs, v, rfl, g1.h _ _ hp, hc, hn, hv, k v n F1 H1 g1 hP q⟩
theorem fs_none {F : Hp} {vs : List (Str × V)} {fs : List (Str × MP)} {f : Str} (h : FsOk F vs fs) (e : fs.lookup f = none) : vs.lookup f = none := by
  induction h with
  | nil => rfl
  | @cons a b l l' hab t ih =>
    obtain ⟨a1, a2⟩ := a
    obtain ⟨b1, b2⟩ := b
    obtain ⟨e1, _⟩ := hab
    have e1 : a1 = b1 := e1
    subst e1
    rw [List.lookup_cons] at e ⊢
    cases z : f == a1 with
    | true => rw [z] at e; cases e
    | false => rw [z] at e; exact ih e
theorem evp_if (h : EvT K t A fun b => if b = true then EvP K ta A P else EvP K tb A P) : EvP K (tIf t ta tb) A P := fun F0 H0 σ F H w Q k => by
  refine h F0 H0 σ F H w _ fun b F1 H1 g1 q => ?_
  cases b with
  | true => exact q F0 H0 σ F1 H1 (w.go g1) Q fun v m F' H' g p r => k v m F' H' (g1.trans g) p r
  | false => exact q F0 H0 σ F1 H1 (w.go g1) Q fun v m F' H' g p r => k v m F' H' (g1.trans g) p r
theorem evp_andV (h : EvP K ta A fun m => ∃ b, m = dB K b ∧ if b = true then EvP K tb A P else P (dB K false)) : EvP K (tAndV ta tb) A P := fun F0 H0 σ F H w Q k => by
  refine h F0 H0 σ F H w _ fun x m F1 H1 g1 p1 ⟨b, e, q⟩ => ?_
  subst e
  refine ⟨b, p_bl p1, ?_⟩
  cases b with
  | true => exact q F0 H0 σ F1 H1 (w.go g1) Q fun v m F' H' g p r => k v m F' H' (g1.trans g) p r
  | false => exact k _ _ F1 H1 g1 (i_bl false) q
theorem evp_orV (h : EvP K ta A fun m => ∃ b, m = dB K b ∧ if b = true then P (dB K true) else EvP K tb A P) : EvP K (tOrV ta tb) A P := fun F0 H0 σ F H w Q k => by
  refine h F0 H0 σ F H w _ fun x m F1 H1 g1 p1 ⟨b, e, q⟩ => ?_
  subst e
  refine ⟨b, p_bl p1, ?_⟩
  cases b with
  | false => exact q F0 H0 σ F1 H1 (w.go g1) Q fun v m F' H' g p r => k v m F' H' (g1.trans g) p r
  | true => exact k _ _ F1 H1 g1 (i_bl true) q
theorem evp_notV (h : EvP K ta A fun m => ∃ b, m = dB K b ∧ P (dB K (!b))) : EvP K (tNotV ta) A P := fun F0 H0 σ F H w Q k => by
  refine h F0 H0 σ F H w _ fun x m F1 H1 g1 p1 ⟨b, e, q⟩ => ?_
  subst e
  exact ⟨b, p_bl p1, k _ _ F1 H1 g1 (i_bl _) q⟩
/-- x r y r' z -/
theorem evp_chain {r r' : R2} (h : EvP K ta A fun m => EvP K tb A fun n => ROk r m n fun b => ∃ c, b = dB K c ∧ if c = true then EvP K tc A fun o => ROk r' n o P else P (dB K false)) : EvP K (tChain r r' ta tb tc) A P := fun F0 H0 σ F H w Q k => by
  refine h F0 H0 σ F H w _ fun x m F1 H1 g1 p1 h1 => ?_
  refine h1 F0 H0 σ F1 H1 (w.go g1) _ fun y n F2 H2 g2 p2 h2 => ?_
  refine h2 F2 H2 x y g2.h (m.mono g2.f p1) p2 _ fun v l F3 H3 g3 p3 ⟨c, e, q⟩ => ?_
  subst e
  refine ⟨c, p_bl p3, ?_⟩
  have g : Grow F H F3 H3 := g1.trans (g2.trans g3)
  cases c with
  | true =>
    refine q F0 H0 σ F3 H3 (w.go g) _ fun z o F4 H4 g4 p4 h4 => ?_
    exact h4 F4 H4 y z g4.h (n.mono (g3.trans g4).f p2) p4 Q fun v l F5 H5 g5 p5 q5 => k v l F5 H5 (g.trans (g4.trans g5)) p5 q5
  | false => exact k _ _ F3 H3 g (i_bl false) q

/-! ### tests -/
theorem evt_test (h : EvP K te A fun m => ∃ b, m = dB K b ∧ B b) : EvT K (tTest te) A B := fun F0 H0 σ F H w Q k => by
  refine h F0 H0 σ F H w _ fun x m F1 H1 g1 p1 ⟨b, e, q⟩ => ?_
  subst e
  exact ⟨b, p_bl p1, k b F1 H1 g1 q⟩
theorem evt_B (h : EvP K te A fun m => ∃ b, m = dB K b ∧ B b) : EvT K (tB te) A B := fun F0 H0 σ F H w Q k => by
  refine h F0 H0 σ F H w _ fun x m F1 H1 g1 p1 ⟨b, e, q⟩ => ?_
  subst e
  exact ⟨b, p_bl p1, k b F1 H1 g1 q⟩
theorem evt_and (h : EvT K t A fun b => if b = true then EvT K u A B else B false) : EvT K (tAnd t u) A B := fun F0 H0 σ F H w Q k => by
  refine h F0 H0 σ F H w _ fun b F1 H1 g1 q => ?_
  cases b with
  | true => exact q F0 H0 σ F1 H1 (w.go g1) Q fun b F' H' g r => k b F' H' (g1.trans g) r
  | false => exact k false F1 H1 g1 q
theorem evt_or (h : EvT K t A fun b => if b = true then B true else EvT K u A B) : EvT K (tOr t u) A B := fun F0 H0 σ F H w Q k => by
  refine h F0 H0 σ F H w _ fun b F1 H1 g1 q => ?_
  cases b with
  | false => exact q F0 H0 σ F1 H1 (w.go g1) Q fun b F' H' g r => k b F' H' (g1.trans g) r
  | true => exact k true F1 H1 g1 q
theorem evt_not (h : EvT K t A fun b => B (!b)) : EvT K (tNot t) A B := fun F0 H0 σ F H w Q k => h F0 H0 σ F H w _ fun b F1 H1 g1 q => k _ F1 H1 g1 q
theorem evt_yes (h : B true) : EvT K tYes A B := fun F0 H0 σ F H w Q k => k true F H (Grow.refl w.grow.h) h
theorem EvT.mono {B' : Bool → Prop} (h : EvT K t A B) (q : ∀ b, B b → B' b) : EvT K t A B' := fun F0 H0 σ F H w Q k => h F0 H0 σ F H w Q fun b F1 H1 g1 r => k b F1 H1 g1 (q b r)

/-! ### a list of one's own is read -/
/-- no list within -/
def noL : PyData → Bool
  | .list _ => false
  | .tuple ds => noLs ds
  | _ => true
where noLs : List PyData → Bool
  | [] => true
  | d :: ds => noL d && noLs ds
def hideA (F : Hp) (p : Addr) : Hp := fun a => if a = p then none else F a
theorem hide_ne {F : Hp} {p a : Addr} (h : a ≠ p) : hideA F p a = F a := if_neg h
theorem hide_same {F : Hp} {p : Addr} : hideA F p p = none := if_pos rfl
def isTup : HO → Bool
  | .tup _ => true
  | _ => false
mutual
theorem Dq.hide {K : PySem.W.Frag} {F : Hp} {p : Addr} {o : HO} (hp : F p = some o) (ho : ∀ xs, ¬ Rd F p (.tup xs)) : ∀ (d : PyData) (v : V), noL d = true → Dq K F v d → Dq K (hideA F p) v d
  | .none, _, _, h => by cases h; exact .non
  | .bool _, _, _, h => by cases h; exact .bl _
  | .int _, _, _, h => by cases h; exact .int _
  | .str _, _, _, h => by cases h; exact .str _
  | .list _, _, n, _ => by simp [noL] at n
  | .tuple ds, _, n, h => by
    cases h with
    | @tup a xs _ q b =>
      refine .tup ?_ (DqAll.hide hp ho ds _ (by simpa [noL] using n) b)
      rcases q with q | q
      · refine .inl ?_
        have ne : a ≠ p := fun z => ho xs (z ▸ q)
        unfold Rd at q ⊢
        rw [hide_ne ne]
        exact q
      · exact .inr q
  | .dict _, _, _, h => by cases h
theorem DqAll.hide {K : PySem.W.Frag} {F : Hp} {p : Addr} {o : HO} (hp : F p = some o) (ho : ∀ xs, ¬ Rd F p (.tup xs)) : ∀ (ds : List PyData) (vs : List V), noL.noLs ds = true → DqAll K F vs ds → DqAll K (hideA F p) vs ds
  | [], _, _, h => by cases h; exact .nil
  | d :: ds, _, n, h => by
    cases h with
    | cons a b =>
      have n' : noL d = true ∧ noL.noLs ds = true := by simpa [noL.noLs] using n
      exact .cons (Dq.hide hp ho d _ n'.1 a) (DqAll.hide hp ho ds _ n'.2 b)
end
theorem Grow.hide {F H F' H' : Hp} {p : Addr} {o : HO} (e : Ex F H) (hF : F p = none) (hH : H p = some o) (g : Grow (upd F p o) H F' H') : Grow F H (hideA F' p) H' := by
  refine ⟨fun a u q => ?_, fun a u q => ?_, g.hh, fun a q => ?_⟩
  · have ne : a ≠ p := fun z => by rw [z, hF] at q; cases q
    rw [hide_ne ne]
    exact g.f a u (by rw [upd_ne ne]; exact q)
  · by_cases z : a = p
    · rw [z, hide_same] at q; cases q
    · rw [hide_ne z] at q
      exact g.h a u q
  · by_cases z : a = p
    · rw [z, hide_same] at q; exact absurd rfl q
    · rw [hide_ne z] at q
      rcases g.new a q with r | r
      · rw [upd_ne z] at r
        exact .inl r
      · exact .inr r
theorem ow_notup {K : PySem.W.Frag} {F F' : Hp} {p : Addr} {o : Ow} {h : HO} (x : OwOk K F p o h) (e : F' p = some h) : ∀ xs, ¬ Rd F' p (.tup xs) := by
  intro xs r
  rcases r with r | ⟨ob, r⟩
  · rw [e] at r
    cases r
    cases o <;> first | exact x | (unfold OwOk at x; obtain ⟨_, _, z, _⟩ := x; cases z)
  · rw [e] at r
    cases r
    cases o <;> first | exact x | (unfold OwOk at x; obtain ⟨_, _, z, _⟩ := x; cases z)
/-- an expression that reads one's own list (or instance), its value data without lists -/
theorem evp_thaw {i : Nat} {o : Ow} (ha : A[i]? = some (some (.own o))) (h : EvP K te (A.set i (some (.d (owM K o)))) fun m => ∃ d, m = dat K d ∧ noL d = true ∧ P m) : EvP K te A P := fun F0 H0 σ F H w Q k => by
  obtain ⟨p, vs, s, hF, hH, hd, w'⟩ := w.freeze ha
  refine h F0 H0 σ _ H w' Q fun v m F' H' g pm ⟨d, e, n, q⟩ => ?_
  subst e
  have e' : F' p = some vs := g.f p vs upd_same
  exact k v _ _ _ (Grow.hide w.grow.h hF hH g) (Dq.hide e' (ow_notup hd e') d v n pm) q
theorem evt_thaw {i : Nat} {o : Ow} (ha : A[i]? = some (some (.own o))) (h : EvT K t (A.set i (some (.d (owM K o)))) B) : EvT K t A B := fun F0 H0 σ F H w Q k => by
  obtain ⟨p, vs, s, hF, hH, hd, w'⟩ := w.freeze ha
  exact h F0 H0 σ _ H w' Q fun b F' H' g q => k b _ _ (Grow.hide w.grow.h hF hH g) q
end
end Wp
/-! Statements, loops, comprehensions, calls over data. -/
namespace Wp
open PySem PySem.Spec PyProof.Rows L2
section
variable (K : PySem.W.Frag)
def AsT (g : TG) (m : MP) (A : AS) (P : AS → Prop) : Prop := ∀ F0 H0 σ F H v, Wd K F0 H0 A σ F H → m.P F v → ∀ Q : L2.St → Hp → Prop, (∀ A' σ' F' H', Wd K F0 H0 A' σ' F' H' → P A' → Q σ' H') → g v σ H Q
def AsG (g : TGs) (ms : List MP) (A : AS) (P : AS → Prop) : Prop := ∀ F0 H0 σ F H vs, Wd K F0 H0 A σ F H → MPs F vs ms → ∀ Q : L2.St → Hp → Prop, (∀ A' σ' F' H', Wd K F0 H0 A' σ' F' H' → Grow F H F' H' → P A' → Q σ' H') → g vs σ H Q
/-- the items of a walk -/
def ItOk (J : It) (F : Hp) (ms : List MP) : Prop := ∀ F1 H, Ex F F1 → Ex F1 H → ∀ i, (i = ms.length → J.stop i H) ∧ ∀ m, ms[i]? = some m → J.go i H ∧ ∀ x H', J.yld i H x H' → ∃ F2, Grow F1 H F2 H' ∧ m.P F2 x
def EvI (wi : TI) (A : AS) (P : List MP → Prop) : Prop := ∀ F0 H0 σ F H, Wd K F0 H0 A σ F H → ∀ R : It → Hp → Prop, (∀ J ms F' H', Grow F H F' H' → ItOk J F' ms → P ms → R J H') → wi σ H R
/-- the script -/
def scr (ns : List Int) : MP := ⟨fun F v => ∃ a, v = .ref a ∧ SqL K F a (ns.map V.int), fun e ⟨a, b, c⟩ => ⟨a, b, e.l c⟩⟩
end
theorem Grow.re {F0 H0 F1 H1 F2 H2 : Hp} (g : Grow F0 H0 F1 H1) (g2 : Grow F1 H0 F2 H2) : Grow F0 H0 F2 H2 := by
  refine ⟨g.f.trans g2.f, g2.h, g2.hh, fun a h => ?_⟩
  rcases g2.new a h with q | q
  · exact g.new a q
  · exact .inr q
section
variable {K : PySem.W.Frag} {te ta tb : TE} {A : AS} {P : MP → Prop} {t u ts : TS} {E : AE} {tt : TT} {g : TG} {wi : TI}
theorem AEok.seq {F0 H0 : Hp} {D : Ends} (ok : AEok K F0 H0 D E) : AEok K F0 H0 { D with nx := u D } { E with nx := fun A' => ASt K u A' E } :=
  ⟨fun A σ F H w q => q F0 H0 σ F H D w ok, ok.rt, ok.bk, ok.ct, ok.rn⟩
theorem ast_seq (h : ASt K t A { E with nx := fun A' => ASt K u A' E }) : ASt K (tSeq t u) A E := fun F0 H0 σ F H D w ok => h F0 H0 σ F H { D with nx := u D } w ok.seq
theorem ast_next (h : E.nx A) : ASt K tNext A E := fun F0 H0 σ F H D w ok => ok.nx A σ F H w h
theorem ast_brk (h : E.bk A) : ASt K tBreak A E := fun F0 H0 σ F H D w ok => ok.bk A σ F H w h
theorem ast_ct (h : E.ct A) : ASt K tCont A E := fun F0 H0 σ F H D w ok => ok.ct A σ F H w h
theorem ast_no (h : False) : ASt K ts A E := h.elim
theorem ast_asg {i : Nat} (h : EvP K te A fun m => E.nx (A.set i (some (.d m)))) : ASt K (tAsg te (gName i)) A E := fun F0 H0 σ F H D w ok =>
  h F0 H0 σ F H w _ fun v m F' H' g p q => ok.nx _ _ F' H' ((w.go g).set p) q
theorem ast_asgN {i : Nat} (h : EvN K te A fun ds => E.nx (A.set i (some (.own (.lst ds))))) : ASt K (tAsg te (gName i)) A E := fun F0 H0 σ F H D w ok =>
  h F0 H0 σ F H w _ fun p vs ds F' H' g hp hd q => ok.nx _ _ F' _ ((w.go g).fresh (ds := .lst ds) (vs := .lst vs) hp hd) q
theorem ast_asgG (h : EvP K te A fun m => AsT K g m A E.nx) : ASt K (tAsg te g) A E := fun F0 H0 σ F H D w ok =>
  h F0 H0 σ F H w _ fun v m F' H' g' p q => q F0 H0 σ F' H' v (w.go g') p _ fun A' σ' F2 H2 w2 r => ok.nx A' σ' F2 H2 w2 r
theorem ast_drop (h : EvP K te A fun _ => E.nx A) : ASt K (tDrop te) A E := fun F0 H0 σ F H D w ok =>
  h F0 H0 σ F H w _ fun v m F' H' g p q => ok.nx A σ F' H' (w.go g) q
theorem ast_ret (h : EvP K te A E.rt) : ASt K (tRet te) A E := fun F0 H0 σ F H D w ok =>
  h F0 H0 σ F H w _ fun v m F' H' g p q => ok.rt v m F' H' (w.grow.trans g) p q
theorem ast_retO {i : Nat} {o : Ow} (ha : A[i]? = some (some (.own o))) (h : E.rn o) : ASt K (tRet (tVar i)) A E := fun F0 H0 σ F H D w ok => by
  obtain ⟨v, s, p, vs, rfl, h0, hF, hH, hd⟩ := w.sl i _ ha
  exact ⟨_, s, ok.rn p vs o F H w.grow h0 hF hH hd h⟩
theorem ast_if (h : EvT K tt A fun b => if b = true then ASt K t A E else ASt K u A E) : ASt K (tIfS tt t u) A E := fun F0 H0 σ F H D w ok =>
  h F0 H0 σ F H w _ fun b F' H' g q => by
    cases b with
    | true => exact q F0 H0 σ F' H' D (w.go g) ok
    | false => exact q F0 H0 σ F' H' D (w.go g) ok
theorem ast_freeze {i : Nat} {o : Ow} (ha : A[i]? = some (some (.own o))) (h : ASt K ts (A.set i (some (.d (owM K o)))) E) : ASt K ts A E := fun F0 H0 σ F H D w ok => by
  obtain ⟨p, vs, s, hF, hH, hd, w'⟩ := w.freeze ha
  exact h F0 H0 σ _ H D w' ok
theorem ast_aug {i : Nat} {a : Int} {f : Int → Int → Int} (ha : A[i]? = some (some (.d (dI K a)))) (h : EvP K te A fun m => ∃ b, m = dI K b ∧ E.nx (A.set i (some (.d (dI K (f a b)))))) : ASt K (tAug i te (ipI f)) A E := fun F0 H0 σ F H D w ok => by
  obtain ⟨v, s, p⟩ := w.sl i _ ha
  refine ⟨v, s, h F0 H0 σ F H w _ fun y m F' H' g q ⟨b, e, r⟩ => ?_⟩
  subst e
  exact ⟨a, b, p_int p, p_int q, ok.nx _ _ F' H' ((w.go g).set (i_int _)) r⟩
theorem ast_append {i : Nat} {ds : List PyData} (ha : A[i]? = some (some (.own (.lst ds)))) (hl : ds.length < 100000) (h : EvP K te A fun m => ∃ d, m = dat K d ∧ E.nx (A.set i (some (.own (.lst (ds ++ [d])))))) :
    ASt K (tDrop (tBM K "list" rAppend (tVar i) (tCons te tNil))) A E := fun F0 H0 σ F H D w ok => by
  obtain ⟨v, s, p, vs, rfl, h0, hF, hH, hd⟩ := w.sl i _ ha
  cases vs with
  | lst vs =>
    have hd : DqAll K F vs ds := hd
    refine ⟨.ref p, s, .inl ⟨rfl, vs, SqL.of hH⟩, ?_⟩
    refine h F0 H0 σ F H w _ fun y m F' H' g q ⟨d, e, r⟩ => ?_
    subst e
    refine ⟨p, vs, y, rfl, rfl, g.hh _ _ hH, ?_, ?_⟩
    · rw [hd.len]
      exact Nat.lt_of_lt_of_le hl (by decide)
    · exact ok.nx _ _ F' _ ((w.go g).write (es := .lst (ds ++ [d])) (vs := .lst (vs ++ [y])) ha s (DqAll.app (DqAll.ex g.f _ _ hd) (.cons q .nil))) r
  | _ => exact hd.elim
/-! ### targets -/
theorem as_name {m : MP} {i : Nat} {P : AS → Prop} (h : P (A.set i (some (.d m)))) : AsT K (gName i) m A P := fun F0 H0 σ F H v w p Q k => k _ _ F H (w.set p) h
theorem as_tup {ts : TGs} {n : Nat} {m : MP} {ds : List PyData} {P : AS → Prop} (e : m = dT K ds) (hn : ds.length = n) (h : AsG K ts (ds.map (dat K)) A P) : AsT K (gTup K n ts) m A P := fun F0 H0 σ F H v w p Q k => by
  subst e
  obtain ⟨a, xs, rfl, hs, hd⟩ := p_tup p
  have all : ∀ {ds : List PyData} {xs : List V}, DqAll K F xs ds → MPs F xs (ds.map (dat K)) := by
    intro ds
    induction ds with
    | nil => intro xs h; cases h; exact .nil
    | cons d ds ih =>
      intro xs h
      cases h with
      | cons a b => exact .cons a (ih b)
  exact ⟨a, xs, rfl, w.grow.h.t hs, by rw [hd.len]; exact hn, h F0 H0 σ F H xs w (all hd) Q fun A' σ' F' H' w' _ q => k A' σ' F' H' w' q⟩
theorem asg_nil {P : AS → Prop} (h : P A) : AsG K gNil [] A P := fun F0 H0 σ F H vs w p Q k => by
  cases p
  exact ⟨rfl, k A σ F H w (Grow.refl w.grow.h) h⟩
theorem asg_cons {i : Nat} {r : TGs} {m : MP} {ms : List MP} {P : AS → Prop} (h : AsG K r ms (A.set i (some (.d m))) P) : AsG K (gCons (gName i) r) (m :: ms) A P := fun F0 H0 σ F H vs w p Q k => by
  cases p with
  | @cons v _ vs _ a b => exact ⟨v, vs, rfl, h F0 H0 _ F H vs (w.set a) b Q k⟩

/-! ### what is walked -/
theorem dq_items {F : Hp} : ∀ {ds : List PyData} {xs : List V} {i : Nat} {m : MP}, DqAll K F xs ds → (ds.map (dat K))[i]? = some m → ∃ x, xs[i]? = some x ∧ m.P F x := fun {ds xs i m} h e => by
  rw [List.getElem?_map] at e
  cases z : ds[i]? with
  | none => rw [z] at e; cases e
  | some d =>
    rw [z] at e
    have e' : dat K d = m := Option.some.inj e
    obtain ⟨v, h1, h2⟩ := h.get z
    exact ⟨v, h1, e' ▸ h2⟩
theorem evi_list {P : List MP → Prop} (h : EvP K te A fun m => ∃ ds, m = dL K ds ∧ P (ds.map (dat K))) : EvI K (iList K te) A P := fun F0 H0 σ F H w R k => by
  refine h F0 H0 σ F H w _ fun x m F1 H1 g1 p1 ⟨ds, e, q⟩ => ?_
  subst e
  obtain ⟨a, xs, rfl, ha, hd⟩ := p_lst p1
  refine ⟨a, rfl, ⟨xs, SqL.of (g1.h _ _ ha)⟩, k _ _ F1 H1 g1 (fun F2 H2 e1 e2 i => ⟨fun e => ⟨xs, SqL.of ((e1.trans e2) _ _ ha), ?_⟩, fun m hm => ?_⟩) q⟩
  · rw [e, List.length_map, hd.len]
    exact Nat.le_refl _
  · obtain ⟨x, hx, hp⟩ := dq_items hd hm
    have hq : SqL K H2 a xs := SqL.of ((e1.trans e2) _ _ ha)
    refine ⟨⟨xs, x, hq, hx⟩, fun y H' ⟨e, r⟩ => ?_⟩
    subst e
    have ey : y = x := Option.some.inj ((r xs hq).symm.trans hx)
    subst ey
    exact ⟨F2, Grow.refl e2, m.mono e1 hp⟩
theorem evi_scr {ns : List Int} {P : List MP → Prop} (h : EvP K te A fun m => m = scr K ns ∧ P (ns.map (dI K))) : EvI K (iList K te) A P := fun F0 H0 σ F H w R k => by
  refine h F0 H0 σ F H w _ fun x m F1 H1 g1 p1 ⟨e, q⟩ => ?_
  subst e
  obtain ⟨a, rfl, ha⟩ := p1
  refine ⟨a, rfl, ⟨_, g1.h.l ha⟩, k _ _ F1 H1 g1 (fun F2 H2 e1 e2 i => ⟨fun e => ⟨_, (e1.trans e2).l ha, ?_⟩, fun m hm => ?_⟩) q⟩
  · rw [e, List.length_map, List.length_map]
    exact Nat.le_refl _
  · rw [List.getElem?_map] at hm
    cases z : ns[i]? with
    | none => rw [z] at hm; cases hm
    | some n =>
      rw [z] at hm
      have e' : dI K n = m := Option.some.inj hm
      have hq : SqL K H2 a (ns.map V.int) := (e1.trans e2).l ha
      have hx : (ns.map V.int)[i]? = some (.int n) := by rw [List.getElem?_map, z]; rfl
      refine ⟨⟨_, _, hq, hx⟩, fun y H' ⟨e, r⟩ => ?_⟩
      subst e
      have ey : y = .int n := Option.some.inj ((r _ hq).symm.trans hx)
      subst ey
      exact ⟨F2, Grow.refl e2, e' ▸ i_int n⟩
theorem evi_tup {P : List MP → Prop} (h : EvP K te A fun m => ∃ ds, m = dT K ds ∧ P (ds.map (dat K))) : EvI K (iTup K te) A P := fun F0 H0 σ F H w R k => by
  refine h F0 H0 σ F H w _ fun x m F1 H1 g1 p1 ⟨ds, e, q⟩ => ?_
  subst e
  obtain ⟨a, xs, rfl, ha, hd⟩ := p_tup p1
  refine ⟨a, rfl, ⟨xs, g1.h.t ha⟩, k _ _ F1 H1 g1 (fun F2 H2 e1 e2 i => ⟨fun e => ⟨xs, (e1.trans e2).t ha, ?_⟩, fun m hm => ?_⟩) q⟩
  · rw [e, List.length_map, hd.len]
    exact Nat.le_refl _
  · obtain ⟨x, hx, hp⟩ := dq_items hd hm
    have hq : SqT K H2 a xs := (e1.trans e2).t ha
    refine ⟨⟨xs, x, hq, hx⟩, fun y H' ⟨e, r⟩ => ?_⟩
    subst e
    have ey : y = x := Option.some.inj ((r xs hq).symm.trans hx)
    subst ey
    exact ⟨F2, Grow.refl e2, m.mono e1 hp⟩
theorem evi_rng {ta : TA} {P : List MP → Prop} (h : EvA K ta A fun ms => ∃ j : Int, ms = [dI K j] ∧ -100000 ≤ j ∧ j ≤ 100000 ∧ P ((List.range j.toNat).map fun i : Nat => dI K (i : Int))) : EvI K (iRng1 ta) A P := fun F0 H0 σ F H w R k => by
  refine h F0 H0 σ F H w _ fun xs ms F1 H1 g1 p1 ⟨j, e, j0, j1, q⟩ => ?_
  subst e
  obtain ⟨x, rfl, px⟩ := mps1 p1
  rw [p_int px]
  refine ⟨j, rfl, by omega, by omega, k _ _ F1 H1 g1 (fun F2 H2 e1 e2 i => ⟨fun e => ?_, fun m hm => ?_⟩) q⟩
  · rw [e, List.length_map, List.length_range]
    exact Nat.le_refl _
  · rw [List.getElem?_map] at hm
    cases z : (List.range j.toNat)[i]? with
    | none => rw [z] at hm; cases hm
    | some n =>
      rw [z] at hm
      obtain ⟨hl, e2'⟩ := List.getElem?_eq_some_iff.mp z
      rw [List.getElem_range] at e2'
      rw [List.length_range] at hl
      have e' : dI K (n : Int) = m := Option.some.inj hm
      refine ⟨hl, fun y H' ⟨e, r⟩ => ?_⟩
      subst e
      subst r
      refine ⟨F2, Grow.refl e2, e' ▸ ?_⟩
      subst e2'
      rw [Int.zero_add]
      exact i_int _
theorem evi_str {P : List MP → Prop} (h : EvP K te A fun m => ∃ x, m = dS K x ∧ P (x.cps.toList.map fun c => dS K ⟨#[c]⟩)) : EvI K (iStr te) A P := fun F0 H0 σ F H w R k => by
  refine h F0 H0 σ F H w _ fun v m F1 H1 g1 p1 ⟨x, e, q⟩ => ?_
  subst e
  refine ⟨x, p_str p1, k _ _ F1 H1 g1 (fun F2 H2 e1 e2 i => ⟨fun e => ?_, fun m hm => ?_⟩) q⟩
  · show x.cps.size ≤ i
    rw [e, List.length_map, Array.length_toList]
    exact Nat.le_refl _
  · rw [List.getElem?_map, Array.getElem?_toList] at hm
    cases z : x.cps[i]? with
    | none => rw [z] at hm; cases hm
    | some c =>
      rw [z] at hm
      have e' : dS K ⟨#[c]⟩ = m := Option.some.inj hm
      refine ⟨(Array.getElem?_eq_some_iff.mp z).1, fun y H' ⟨e, c', hc, r⟩ => ?_⟩
      subst e
      subst r
      have : c = c' := Option.some.inj (z.symm.trans hc)
      subst this
      exact ⟨F2, Grow.refl e2, e' ▸ i_str _⟩

/-! ### loops -/
theorem ast_for (h : EvI K wi A fun ms => ∃ I : Nat → AS → Prop, I 0 A ∧ (∀ i m A', ms[i]? = some m → I i A' → AsT K g m A' fun A2 => ASt K ts A2 { E with nx := I (i + 1), ct := I (i + 1), bk := E.nx }) ∧ ∀ A', I ms.length A' → E.nx A') : ASt K (tFor wi g ts) A E := fun F0 H0 σ F H D w ok => by
  refine h F0 H0 σ F H w _ fun J ms F1 H1 g1 it ⟨I, i0, turn, fin⟩ => ?_
  have g01 := w.grow.trans g1
  refine ⟨fun i m σ' H' => m = ms.length - i ∧ i ≤ ms.length ∧ ∃ A' F', Wd K F1 H0 A' σ' F' H' ∧ I i A', ⟨ms.length, by simp, Nat.zero_le _, A, F1, (w.go g1).base, i0⟩, ?_⟩
  rintro i m σ' H' ⟨rfl, hi, A', F', w', hI⟩
  have jt := it F' H' w'.grow.f w'.grow.h i
  by_cases hlt : i < ms.length
  · obtain ⟨go, yl⟩ := jt.2 ms[i] (List.getElem?_eq_getElem hlt)
    refine .inr ⟨go, fun σ2 H2 => ∃ A' F', Wd K F1 H0 A' σ2 F' H2 ∧ I (i + 1) A', fun σ2 H2 q => ⟨ms.length - (i + 1), by omega, rfl, hlt, q⟩, fun x H2 y => ?_⟩
    obtain ⟨F2, g2, px⟩ := yl x H2 y
    refine turn i ms[i] A' (List.getElem?_eq_getElem hlt) hI F1 H0 σ' F2 H2 x (w'.go g2) px _ fun A3 σ3 F3 H3 w3 b3 => ?_
    exact b3 F1 H0 σ3 F3 H3 _ w3 ⟨fun A4 σ4 F4 H4 w4 q => ⟨A4, F4, w4, q⟩, fun v m F4 H4 g4 p q => ok.rt v m F4 H4 (g01.re g4) p q, fun A4 σ4 F4 H4 w4 q => ok.nx A4 σ4 F4 H4 (Wd.unbase g01 w4) q, fun A4 σ4 F4 H4 w4 q => ⟨A4, F4, w4, q⟩, fun p h o F4 H4 g4 => ok.rn p h o F4 H4 (g01.re g4)⟩
  · have e : i = ms.length := by omega
    subst e
    exact .inl ⟨jt.1 rfl, ok.nx A' σ' F' H' (Wd.unbase g01 w') (fin A' hI)⟩
theorem ast_while (I : Nat → AS → Prop) (n0 : Nat) (i0 : I n0 A) (h : ∀ n A', I n A' → EvT K tt A' fun b => if b = true then ASt K ts A' { E with nx := fun A2 => ∃ n', n' < n ∧ I n' A2, ct := fun A2 => ∃ n', n' < n ∧ I n' A2, bk := E.nx } else E.nx A') : ASt K (tWhile tt ts) A E := fun F0 H0 σ F H D w ok => by
  refine ⟨fun n σ' H' => ∃ A' F', Wd K F0 H0 A' σ' F' H' ∧ I n A', ⟨n0, A, F, w, i0⟩, ?_⟩
  rintro n σ' H' ⟨A', F', w', hI⟩
  refine h n A' hI F0 H0 σ' F' H' w' _ fun b F2 H2 g2 q => ?_
  cases b with
  | true =>
    refine ⟨fun σ3 H3 => ∃ n', n' < n ∧ ∃ A' F', Wd K F0 H0 A' σ3 F' H3 ∧ I n' A', fun σ3 H3 q => q, ?_⟩
    exact q F0 H0 σ' F2 H2 _ (w'.go g2) ⟨fun A4 σ4 F4 H4 w4 ⟨n', l, q⟩ => ⟨n', l, A4, F4, w4, q⟩, ok.rt, fun A4 σ4 F4 H4 w4 q => ok.nx A4 σ4 F4 H4 w4 q, fun A4 σ4 F4 H4 w4 ⟨n', l, q⟩ => ⟨n', l, A4, F4, w4, q⟩, ok.rn⟩
  | false => exact ok.nx A' σ' F2 H2 (w'.go g2) q
theorem un_hide {H : Hp} {D a : Addr} {u : HO} (h : hideA H D a = some u) : H a = some u := by
  by_cases z : a = D
  · rw [z, hide_same] at h; cases h
  · rw [hide_ne z] at h; exact h
theorem hide_put {H : Hp} {D : Addr} {o : HO} (h : H D = some o) : upd (hideA H D) D o = H := by
  funext a
  by_cases z : a = D
  · rw [z, upd_same, h]
  · rw [upd_ne z, hide_ne z]
theorem Grow.hideH {F1 H1 F' H' F2 H2 : Hp} {D : Addr} {o : HO} (g : Grow F1 H1 F' (hideA H' D)) (hD : H1 D = none) (fD : F' D = none) (hv : H' D = some o) (g2 : Grow F' H' F2 H2) : Grow F1 H1 F2 (hideA H2 D) := by
  obtain ⟨f2, _⟩ := g2.own fD hv
  refine ⟨g.f.trans g2.f, fun a u q => ?_, fun a u q => ?_, fun a q => ?_⟩
  · have ne : a ≠ D := fun z => by rw [z, f2] at q; cases q
    rw [hide_ne ne]
    exact g2.h a u q
  · have ne : a ≠ D := fun z => by rw [z, hD] at q; cases q
    rw [hide_ne ne]
    exact g2.hh a u (un_hide (g.hh a u q))
  · rcases g2.new a q with r | r
    · exact g.new a r
    · have ne : a ≠ D := fun z => by rw [z, hv] at r; cases r
      exact .inr (g.hh.free (by rw [hide_ne ne]; exact r))
/-- [e for x in .. if ..] -/
theorem evn_lc {j : Nat} {P : List PyData → Prop} (hj : j < A.length) (h : EvI K wi A fun ms => ms.length ≤ 50000 ∧ ∃ R : Nat → List PyData → Prop, R 0 [] ∧
    (∀ i m acc, ms[i]? = some m → R i acc → EvT K tt (A.set j (some (.d m))) fun b => if b = true then EvP K te (A.set j (some (.d m))) fun k => ∃ d, k = dat K d ∧ R (i + 1) (acc ++ [d]) else R (i + 1) acc) ∧ ∀ acc, R ms.length acc → P acc) :
    EvN K (tLc wi (gName j) tt te [j]) A P := fun F0 H0 σ F H w Q k => by
  refine h F0 H0 σ F H w _ fun J ms F1 H1 g1 it ⟨hl, R, r0, turn, fin⟩ => fun D hD => ?_
  have w1 := (w.go g1).base
  have F1D : F1 D = none := g1.h.free hD
  have start : Grow F1 H1 F1 (hideA (upd H1 D (.lst [])) D) := by
    have e : hideA (upd H1 D (.lst [])) D = H1 := by
      funext a
      by_cases z : a = D
      · rw [z, hide_same, hD]
      · rw [hide_ne z, upd_ne z]
    rw [e]
    exact Grow.refl g1.h
  refine ⟨fun i m H' => m = ms.length - i ∧ i ≤ ms.length ∧ ∃ F' vs acc, Grow F1 H1 F' (hideA H' D) ∧ H' D = some (.lst vs) ∧ DqAll K F' vs acc ∧ acc.length ≤ i ∧ R i acc, ⟨ms.length, by simp, Nat.zero_le _, F1, [], [], start, upd_same, .nil, Nat.le_refl _, r0⟩, ?_⟩
  rintro i m H' ⟨rfl, hi, F', vs, acc, g', hv, hd, ha, hR⟩
  have fD : F' D = none := by
    cases z : F' D with
    | none => rfl
    | some o =>
      have q := g'.h _ _ z
      rw [hide_same] at q
      cases q
  have e1 : Ex F' H' := fun a u q => un_hide (g'.h a u q)
  have jt := it F' _ g'.f e1 i
  by_cases hlt : i < ms.length
  · obtain ⟨go, yl⟩ := jt.2 ms[i] (List.getElem?_eq_getElem hlt)
    refine .inr ⟨go, fun H2 => ∃ F' vs acc, Grow F1 H1 F' (hideA H2 D) ∧ H2 D = some (.lst vs) ∧ DqAll K F' vs acc ∧ acc.length ≤ i + 1 ∧ R (i + 1) acc, fun H2 q => ⟨ms.length - (i + 1), by omega, rfl, hlt, q⟩, fun x H2 y => ?_⟩
    obtain ⟨F2, g2, px⟩ := yl x H2 y
    have hg : Grow F1 H0 F' H' := ⟨g'.f, e1, (w.grow.hh.trans g1.hh).trans fun a u q => un_hide (g'.hh a u q), fun a q => (g'.new a q).elim .inl fun z => .inr ((w.grow.hh.trans g1.hh).free z)⟩
    have w2 : Wd K F1 H0 A σ F' H' := by
      refine ⟨hg, w1.len, fun a x e => ?_, w1.dist⟩
      obtain ⟨v, s1, s2⟩ := w1.sl a x e
      refine ⟨v, s1, ?_⟩
      have s3 := s2.grow g'
      cases x with
      | d m => exact s3
      | own o =>
        obtain ⟨p, h, e1, e2, e3, e4, e5⟩ := s3
        exact ⟨p, h, e1, e2, e3, un_hide e4, e5⟩
    have w3 : Wd K F1 H0 (A.set j (some (.d ms[i]))) (σ.set j (some x)) F2 H2 := (w2.go g2).set (i := j) (m := ms[i]) px
    have ws : ∀ z, wipe ((wipe σ [j]).set j (some z)) [j] = wipe σ [j] := fun z => by
      show ((σ.set j none).set j (some z)).set j none = σ.set j none
      rw [List.set_set, List.set_set]
    have es : (wipe σ [j]).set j (some x) = σ.set j (some x) := by
      show (σ.set j none).set j (some x) = _
      rw [List.set_set]
    show wipe ((wipe σ [j]).set j (some x)) [j] = wipe σ [j] ∧ _
    refine ⟨ws x, ?_⟩
    rw [es]
    obtain ⟨fD2, hv2⟩ := g2.own fD hv
    have gD2 := g'.hideH hD fD hv g2
    refine turn i ms[i] acc (List.getElem?_eq_getElem hlt) hR F1 H0 _ F2 H2 w3 _ fun b F3 H3 g3 q => ?_
    obtain ⟨fD3, hv3⟩ := g3.own fD2 hv2
    have gD3 := gD2.hideH hD fD2 hv2 g3
    cases b with
    | true =>
      refine q F1 H0 _ F3 H3 (w3.go g3) _ fun z k2 F4 H4 g4 pz ⟨d, ed, r⟩ => ?_
      subst ed
      obtain ⟨fD4, hv4⟩ := g4.own fD3 hv3
      have gD4 := gD3.hideH hD fD3 hv3 g4
      have hd4 : DqAll K F4 vs acc := DqAll.ex ((g2.trans g3).trans g4).f _ _ hd
      refine ⟨vs, hv4, ?_, F4, vs ++ [z], acc ++ [d], ?_, upd_same, hd4.app (.cons pz .nil), ?_, r⟩
      · rw [hd4.len]
        exact Nat.lt_of_lt_of_le (show acc.length < 100000 by omega) (by decide)
      · have e : hideA (upd H4 D (.lst (vs ++ [z]))) D = hideA H4 D := by
          funext a
          by_cases z : a = D
          · rw [z, hide_same, hide_same]
          · rw [hide_ne z, upd_ne z, hide_ne z]
        rw [e]
        exact gD4
      · rw [List.length_append, List.length_singleton]
        omega
    | false => exact ⟨F3, vs, acc, gD3, hv3, DqAll.ex (g2.trans g3).f _ _ hd, by omega, q⟩
  · have e : i = ms.length := by omega
    subst e
    refine .inl ⟨jt.1 rfl, ?_⟩
    have hq := k D vs acc F' (hideA H' D) (g1.trans g') hide_same hd (fin acc hR)
    rw [hide_put hv] at hq
    exact hq
end
end Wp
/-! Promises over data, calls, methods, new instances. -/
namespace Wp
open PySem PySem.Spec PyProof.Rows L2
/-- a promise over data -/
def SpP (pre : List MP → Prop) (post : List MP → MP → Prop) : Sp := fun vs H Q _ => ∃ F ms, Ex F H ∧ MPs F vs ms ∧ pre ms ∧ ∀ v m F' H', Grow F H F' H' → m.P F' v → post ms m → Q v H'
/-- the state at the entry -/
def ent (N : List Str) (ms : List MP) : AS := ms.map (fun m => some (.d m)) ++ List.replicate (N.length - ms.length) none
theorem mps_len {F : Hp} : ∀ {vs : List V} {ms : List MP}, MPs F vs ms → vs.length = ms.length
  | _, _, .nil => rfl
  | _, _, .cons _ t => by rw [List.length_cons, List.length_cons, mps_len t]
theorem wd_ent {K : PySem.W.Frag} {F H : Hp} {N : List Str} {vs : List V} {ms : List MP} (e : Ex F H) (h : MPs F vs ms) : Wd K F H (ent N ms) (L2.start N vs) F H := by
  have hl := mps_len h
  have noown : ∀ (i : Nat) (o : Ow), (ent N ms)[i]? ≠ some (some (.own o)) := fun i o q => by
    unfold ent at q
    rw [List.getElem?_append] at q
    split at q
    · rw [List.getElem?_map] at q
      cases z : ms[i]? with
      | none => rw [z] at q; cases q
      | some m => rw [z] at q; cases q
    · rw [List.getElem?_replicate] at q
      split at q <;> cases q
  refine ⟨Grow.refl e, ?_, fun i x q => ?_, fun i j ds es p q => absurd q (noown i ds)⟩
  · unfold ent L2.start
    simp [hl]
  · unfold ent at q
    rw [List.getElem?_append] at q
    split at q
    · rename_i hlt
      rw [List.getElem?_map] at q
      cases z : ms[i]? with
      | none => rw [z] at q; cases q
      | some m =>
        rw [z] at q
        cases q
        have key : ∀ {vs : List V} {ms : List MP} {i : Nat} {m : MP}, MPs F vs ms → ms[i]? = some m → ∃ v, vs[i]? = some v ∧ m.P F v := by
          intro vs ms i m h
          induction h generalizing i with
          | nil => intro e; simp at e
          | cons a b ih =>
            intro e
            cases i with
            | zero =>
              cases Option.some.inj e
              exact ⟨_, rfl, a⟩
            | succ i => exact ih e
        obtain ⟨v, hv, hp⟩ := key h z
        refine ⟨v, ?_, hp⟩
        unfold L2.start
        rw [List.getElem?_append_left (by rw [List.length_map]; exact (List.getElem?_eq_some_iff.mp hv).1), List.getElem?_map, hv]
        rfl
    · rw [List.getElem?_replicate] at q
      split at q <;> cases q
section
variable {P : Program} {w : World} {K : PySem.W.Frag} {mg : Str → Option Value} {base : Heap}
/-- THE RULE of a def -/
theorem fun_ok {x qual : Str} {st : Stmt} {f : Addr} {fd : FuncData} {N ps : List Str} {k : Nat} {pre : List MP → Prop} {post : List MP → MP → Prop} (F : Fun K x qual st f fd) (S : FnScope N ps (defScope st)) (len : ∀ ms, pre ms → ms.length = ps.length)
    (h : ∀ (cdv : Value) (A : Around) (outer : List Env) (s : Shared) (H : Hp) (E : XK), Room k (A.deeper (envOfC qual (defScope st) s.heap.objs.size f cdv)) →
      ∃ t, PSs (cxOf CX0 P w K mg base N qual (defScope st) f cdv A outer s H E).nox (defBody st) t ∧ ∀ ms, pre ms → ASt K t (ent N ms) { nx := fun _ => post ms (dN K), rt := post ms }) : FnOk P w K mg base CX0 (k + 1) f fd ps (SpP pre post) := by
  refine F.ok S (fun vs H Q E ⟨F0, ms, _, hm, hp, _⟩ => ?_) (fun cdv A outer s H vs Q E hr ⟨F0, ms, e, hm, hp, q⟩ => ?_)
  · rw [mps_len hm, len ms hp]
  · obtain ⟨t, ht, ha⟩ := h cdv A outer s H E hr
    refine ⟨t, ht, ha ms hp F0 H _ F0 H _ (wd_ent e hm) ⟨fun A' σ' F' H' w' r => ?_, fun v m F' H' g p r => q v m F' H' g p r, fun _ _ _ _ _ z => z.elim, fun _ _ _ _ _ z => z.elim, fun _ _ _ _ _ _ _ _ _ _ z => z.elim⟩⟩
    exact q .non (dN K) F' H' w'.grow i_non r
/-- the same for a def with keyword defaults -/
theorem fund_ok {x qual : Str} {params : Arguments} {body : List Stmt} {scope : Scope} {dvs : List V} {kws : List (Str × V)} {f : Addr} {fd : FuncData} {N ps : List Str} {k : Nat} {pre : List MP → Prop} {post : List MP → MP → Prop} (F : FunD K x qual params body scope dvs kws f fd) (S : FnScope N ps scope) (len : ∀ ms, pre ms → ms.length = ps.length)
    (h : ∀ (cdv : Value) (A : Around) (outer : List Env) (s : Shared) (H : Hp) (E : XK), Room k (A.deeper (envOfC qual scope s.heap.objs.size f cdv)) →
      ∃ t, PSs (cxOf CX0 P w K mg base N qual scope f cdv A outer s H E).nox body t ∧ ∀ ms, pre ms → ASt K t (ent N ms) { nx := fun _ => post ms (dN K), rt := post ms }) : FnOk P w K mg base CX0 (k + 1) f fd ps (SpP pre post) := by
  refine F.ok S (fun vs H Q E ⟨F0, ms, _, hm, hp, _⟩ => ?_) (fun cdv A outer s H vs Q E hr ⟨F0, ms, e, hm, hp, q⟩ => ?_)
  · rw [mps_len hm, len ms hp]
  · obtain ⟨t, ht, ha⟩ := h cdv A outer s H E hr
    refine ⟨t, ht.nox, ha ms hp F0 H _ F0 H _ (wd_ent e hm) ⟨fun A' σ' F' H' w' r => ?_, fun v m F' H' g p r => q v m F' H' g p r, fun _ _ _ _ _ z => z.elim, fun _ _ _ _ _ z => z.elim, fun _ _ _ _ _ _ _ _ _ _ z => z.elim⟩⟩
    exact q .non (dN K) F' H' w'.grow i_non r
end
section
variable {K : PySem.W.Frag} {te ta : TE} {tas : TA} {A : AS} {P : MP → Prop} {pre : List MP → Prop} {post : List MP → MP → Prop} {E : XK}
theorem mps_app {F : Hp} {vs us : List V} {ms ns : List MP} (h : MPs F vs ms) (k : MPs F us ns) : MPs F (vs ++ us) (ms ++ ns) := by
  induction h with
  | nil => exact k
  | cons a b ih => exact .cons a ih
theorem evp_call (h : EvA K tas A fun ms => pre ms ∧ ∀ m, post ms m → P m) : EvP K (tCall (SpP pre post) [] E tas) A P := fun F0 H0 σ F H w Q k => by
  refine h F0 H0 σ F H w _ fun xs ms F1 H1 g1 p1 ⟨hp, hq⟩ => ?_
  refine ⟨F1, ms, g1.h, ?_, hp, fun v m F' H' g p r => k v m F' H' (g1.trans g) p (hq m r)⟩
  rw [List.append_nil]
  exact p1
/-- m is an instance of C without its own attribute of that name -/
def InsOk (C : Addr) (name : Str) (m : MP) : Prop := ∀ F x, m.P F x → ∃ a dx fs, x = .ref a ∧ F a = some (.ins C dx fs) ∧ fs.lookup name = none
theorem ins_ok {C : Addr} {name : Str} {fs : List (Str × MP)} (h : fs.lookup name = none) : InsOk C name (insM C fs) := fun F x ⟨p, dx, vs, e, hp, hf⟩ => ⟨p, dx, vs, e, hp, fs_none hf h⟩
theorem evp_meth {C : Addr} {name : Str} (h : EvP K te A fun m => InsOk C name m ∧ EvA K tas A fun ms => pre (m :: ms) ∧ ∀ r, post (m :: ms) r → P r) : EvP K (tMeth C name (SpP pre post) [] E te tas) A P := fun F0 H0 σ F H w Q k => by
  refine h F0 H0 σ F H w _ fun x m F1 H1 g1 p1 ⟨hi, h1⟩ => ?_
  obtain ⟨a, dx, fs, rfl, ha, hl⟩ := hi F1 x p1
  refine ⟨a, dx, fs, rfl, g1.h _ _ ha, hl, ?_⟩
  refine h1 F0 H0 σ F1 H1 (w.go g1) _ fun xs ms F2 H2 g2 p2 ⟨hp, hq⟩ => ?_
  refine ⟨F2, m :: ms, g2.h, ?_, hp, fun v r F' H' g p q => k v r F' H' (g1.trans (g2.trans g)) p (hq r q)⟩
  rw [List.append_nil]
  exact .cons (m.mono g2.f p1) p2
theorem evp_prop {C : Addr} {name : Str} (h : EvP K te A fun m => InsOk C name m ∧ pre [m] ∧ ∀ r, post [m] r → P r) : EvP K (tProp C (SpP pre post) [] E te) A P := fun F0 H0 σ F H w Q k => by
  refine h F0 H0 σ F H w _ fun x m F1 H1 g1 p1 ⟨hi, hp, hq⟩ => ?_
  obtain ⟨a, dx, fs, rfl, ha, hl⟩ := hi F1 x p1
  refine ⟨a, dx, fs, rfl, g1.h _ _ ha, ?_⟩
  exact ⟨F1, [m], g1.h, .cons p1 .nil, hp, fun v r F' H' g p q => k v r F' H' (g1.trans g) p (hq r q)⟩
/-- f(e, .., k = v): positional n, the rest keyword-only or defaults -/
theorem evp_calln {n m : Nat} {gV : List V → List V → List V} {tk : TA} (gM : List MP → List MP → List MP) (hg : ∀ F vs ms us ns, MPs F vs ms → MPs F us ns → MPs F (gV vs us) (gM ms ns))
    (h : EvA K tas A fun ms => EvA K tk A fun ns => ms.length = n ∧ ns.length = m ∧ pre (gM ms ns) ∧ ∀ r, post (gM ms ns) r → P r) : EvP K (tCallN n m (SpP pre post) gV E tas tk) A P := fun F0 H0 σ F H w Q k => by
  refine h F0 H0 σ F H w _ fun xs ms F1 H1 g1 p1 h1 => ?_
  refine h1 F0 H0 σ F1 H1 (w.go g1) _ fun ys ns F2 H2 g2 p2 ⟨l1, l2, hp, hq⟩ => ?_
  refine ⟨(mps_len p1).trans l1, (mps_len p2).trans l2, ?_⟩
  exact ⟨F2, gM ms ns, g2.h, hg _ _ _ _ _ (MPs.grow g2.f p1) p2, hp, fun v r F' H' g p q => k v r F' H' (g1.trans (g2.trans g)) p (hq r q)⟩

/-! ### new instances -/
/-- the promise of an __init__: the attributes afterwards -/
def SpI (C : Addr) (pre : List MP → Prop) (post : List MP → List (Str × MP) → Prop) : Sp := fun vs H Q _ => ∃ F ms x dx args, vs = .ref x :: args ∧ H x = some (.ins C dx []) ∧ F x = none ∧ Ex F H ∧ MPs F args ms ∧ pre ms ∧
  ∀ F' H' dx' vfs fs, Grow F (hideA H x) F' (hideA H' x) → H' x = some (.ins C dx' vfs) → F' x = none → FsOk F' vfs fs → post ms fs → Q .non H'
theorem make_grow {F H F' H' : Hp} {x dx C dx' : Addr} {vfs : List (Str × V)} (nx : H x = none) (nd : H dx = none) (e : Ex F H) (hx : F' x = none)
    (g : Grow F (hideA (upd (upd H dx (.own x)) x (.ins C dx [])) x) F' (hideA H' x)) (h : H' x = some (.ins C dx' vfs)) : Grow F H (upd F' x (.ins C dx' vfs)) H' := by
  refine ⟨fun a u q => ?_, fun a u q => ?_, fun a u q => ?_, fun a q => ?_⟩
  · have ne : a ≠ x := fun z => by rw [z, e.free nx] at q; cases q
    rw [upd_ne ne]
    exact g.f a u q
  · by_cases z : a = x
    · rw [z, upd_same] at q
      rw [z, h, q]
    · rw [upd_ne z] at q
      exact un_hide (g.h a u q)
  · have ne : a ≠ x := fun z => by rw [z, nx] at q; cases q
    have ne2 : a ≠ dx := fun z => by rw [z, nd] at q; cases q
    exact un_hide (g.hh a u (by rw [hide_ne ne, upd_ne ne, upd_ne ne2]; exact q))
  · by_cases z : a = x
    · exact .inr (z ▸ nx)
    · rw [upd_ne z] at q
      rcases g.new a q with r | r
      · exact .inl r
      · rw [hide_ne z, upd_ne z] at r
        by_cases z2 : a = dx
        · exact .inr (z2 ▸ nd)
        · rw [upd_ne z2] at r
          exact .inr r
theorem make_pre {F H : Hp} {x dx C : Addr} (nx : H x = none) (nd : H dx = none) (e : Ex F H) : F x = none ∧ Ex F (upd (upd H dx (.own x)) x (.ins C dx [])) :=
  ⟨e.free nx, (e.trans (Ex.new nd)).mut (e.free nx)⟩
theorem evp_make {C : Addr} {posti : List MP → List (Str × MP) → Prop} (h : EvA K tas A fun ms => pre ms ∧ ∀ fs, posti ms fs → P (insM C fs)) : EvP K (tMake C (SpI C pre posti) [] E tas) A P := fun F0 H0 σ F H w Q k => by
  refine h F0 H0 σ F H w _ fun xs ms F1 H1 g1 p1 ⟨hp, hq⟩ => fun x dx nx nd nex => ?_
  obtain ⟨fx, ex⟩ := make_pre (C := C) nx nd g1.h
  refine ⟨F1, ms, x, dx, xs, by rw [List.append_nil], upd_same, fx, ex, p1, hp, fun F' H' dx' vfs fs g hx f' hf r => ⟨rfl, ?_⟩⟩
  have gg := make_grow nx nd g1.h f' g hx
  exact k (.ref x) (insM C fs) _ _ (g1.trans gg) ⟨x, dx', vfs, rfl, upd_same, hf.ex (Ex.new f')⟩ (hq fs r)
theorem evp_makek {C : Addr} {m : Nat} {gV : List V → List V → List V} {tk : TA} {posti : List MP → List (Str × MP) → Prop} (hg : ∀ x us, us.length = m → gV [x] us = x :: us)
    (h : EvA K tk A fun ms => ms.length = m ∧ pre ms ∧ ∀ fs, posti ms fs → P (insM C fs)) : EvP K (tMakeK C 0 m (SpI C pre posti) gV E tNil tk) A P := fun F0 H0 σ F H w Q k => by
  refine h F0 H0 σ F H w _ fun xs ms F1 H1 g1 p1 ⟨l1, hp, hq⟩ => ⟨rfl, (mps_len p1).trans l1, fun x dx nx nd nex => ?_⟩
  obtain ⟨fx, ex⟩ := make_pre (C := C) nx nd g1.h
  refine ⟨F1, ms, x, dx, xs, hg _ _ ((mps_len p1).trans l1), upd_same, fx, ex, p1, hp, fun F' H' dx' vfs fs g hx f' hf r => ⟨rfl, ?_⟩⟩
  have gg := make_grow nx nd g1.h f' g hx
  exact k (.ref x) (insM C fs) _ _ (g1.trans gg) ⟨x, dx', vfs, rfl, upd_same, hf.ex (Ex.new f')⟩ (hq fs r)
/-- the attribute of one's own instance is stored -/
def putM (f : Str) (v : MP) : List (Str × MP) → List (Str × MP)
  | [] => [(f, v)]
  | (g, x) :: r => if g = f then (g, v) :: r else (g, x) :: putM f v r
theorem fs_put {F : Hp} {f : Str} {v : V} {m : MP} (p : m.P F v) {vs : List (Str × V)} {fs : List (Str × MP)} (h : FsOk F vs fs) : FsOk F (putF f v vs) (putM f m fs) := by
  induction h with
  | nil => exact .cons ⟨rfl, p⟩ .nil
  | @cons a b l l' hab t ih =>
    obtain ⟨a1, a2⟩ := a
    obtain ⟨b1, b2⟩ := b
    obtain ⟨e1, e2⟩ := hab
    have e1 : a1 = b1 := e1
    subst e1
    unfold putF putM
    by_cases z : a1 = f
    · rw [if_pos z, if_pos z]
      exact .cons ⟨rfl, p⟩ t
    · rw [if_neg z, if_neg z]
      exact .cons ⟨rfl, e2⟩ ih
theorem fs_len {F : Hp} {vs : List (Str × V)} {fs : List (Str × MP)} (h : FsOk F vs fs) : vs.length = fs.length := by
  induction h with
  | nil => rfl
  | cons a b ih => rw [List.length_cons, List.length_cons, ih]
theorem ast_fld {E : AE} {i : Nat} {x C : Addr} {fs : List (Str × MP)} {f : Str} (ha : A[i]? = some (some (.own (.ins x C fs)))) (hc : Cls K C) (hn : NoAttr K C f) (hl : fs.length < 1000)
    (h : EvP K te A fun m => E.nx (A.set i (some (.own (.ins x C (putM f m fs)))))) : ASt K (sFld K (tVar i) te f) A E := fun F0 H0 σ F H D w ok => by
  obtain ⟨v, s, p, o, rfl, h0, hF, hH, hd⟩ := w.sl i _ ha
  refine h F0 H0 σ F H w _ fun y m F' H' g q r => ?_
  cases o with
  | ins C' dx vs =>
    obtain ⟨ex, rfl, hf⟩ := hd
    refine ⟨.ref p, s, p, C', dx, vs, rfl, g.hh _ _ hH, hc, hn, by rw [fs_len hf]; exact hl, ?_⟩
    exact ok.nx _ _ F' _ ((w.go g).write (es := .ins x C' (putM f m fs)) (vs := .ins C' dx (putF f y vs)) ha s ⟨ex, rfl, fs_put q (hf.ex g.f)⟩) r
  | _ => exact hd.elim
end
section
variable {P : Program} {w : World} {K : PySem.W.Frag} {mg : Str → Option Value} {base : Heap}
/-- the state at an __init__'s entry -/
def entI (N : List Str) (x C : Addr) (ms : List MP) : AS := some (.own (.ins x C [])) :: (ms.map (fun m => some (.d m)) ++ List.replicate (N.length - 1 - ms.length) none)
theorem wd_entI {K : PySem.W.Frag} {F H : Hp} {N : List Str} {x C dx : Addr} {vs : List V} {ms : List MP} (hN : N.length ≠ 0) (hx : H x = some (.ins C dx [])) (fx : F x = none) (e : Ex F H) (h : MPs F vs ms) :
    Wd K F (hideA H x) (entI N x C ms) (L2.start N (.ref x :: vs)) F H := by
  have e0 : Ex F (hideA H x) := fun a u q => by
    have ne : a ≠ x := fun z => by rw [z, fx] at q; cases q
    rw [hide_ne ne]
    exact e a u q
  have w0 := wd_ent (K := K) (N := N.tail) e0 h
  have es : L2.start N (.ref x :: vs) = some (.ref x) :: L2.start N.tail vs := by
    unfold L2.start
    rw [List.map_cons, List.cons_append, List.length_cons, List.length_tail]
    congr 3
    omega
  have ea : entI N x C ms = some (.own (.ins x C [])) :: ent N.tail ms := by
    unfold entI ent
    rw [List.length_tail]
  have nofar : ∀ (j : Nat) (o : Ow), (ent N.tail ms)[j]? ≠ some (some (.own o)) := fun j o q => by
    unfold ent at q
    rw [List.getElem?_append] at q
    split at q
    · rw [List.getElem?_map] at q
      cases z : ms[j]? with
      | none => rw [z] at q; cases q
      | some m => rw [z] at q; cases q
    · rw [List.getElem?_replicate] at q
      split at q <;> cases q
  rw [es, ea]
  refine ⟨⟨Ex.refl F, e, fun a u q => un_hide q, fun _ q => .inl q⟩, by rw [List.length_cons, List.length_cons, w0.len], fun i y q => ?_, fun i j ds es p q1 q2 s1 s2 => ?_⟩
  · cases i with
    | zero =>
      cases Option.some.inj q
      exact ⟨.ref x, rfl, x, _, rfl, hide_same, fx, hx, rfl, rfl, .nil⟩
    | succ i =>
      obtain ⟨v, s, ok⟩ := w0.sl i y q
      refine ⟨v, s, ?_⟩
      cases y with
      | d m => exact ok
      | own o => exact absurd q (nofar i o)
  · cases i with
    | zero =>
      cases j with
      | zero => rfl
      | succ j => exact absurd q2 (nofar j es)
    | succ i => exact absurd q1 (nofar i ds)
/-- THE RULE of an __init__ -/
theorem init_ok {qual : Str} {params : Arguments} {body : List Stmt} {scope : Scope} {dvs : List V} {kws : List (Str × V)} {f : Addr} {fd : FuncData} {N ps : List Str} {k : Nat} {C : Addr} {pre : List MP → Prop} {post : List MP → List (Str × MP) → Prop}
    (F : FunD K "__init__" qual params body scope dvs kws f fd) (S : FnScope N ps scope) (hN : N.length ≠ 0) (len : ∀ ms, pre ms → ms.length + 1 = ps.length)
    (h : ∀ (cdv : Value) (A : Around) (outer : List Env) (s : Shared) (H : Hp) (E : XK), Room k (A.deeper (envOfC qual scope s.heap.objs.size f cdv)) →
      ∃ t, PSs (cxOf CX0 P w K mg base N qual scope f cdv A outer s H E).nox body t ∧ ∀ x ms, pre ms → ASt K t (entI N x C ms) { nx := fun A' => ∃ (i : Nat) (fs : List (Str × MP)), A'[i]? = some (some (Sl.own (.ins x C fs))) ∧ post ms fs, rt := fun _ => False }) : FnOk P w K mg base CX0 (k + 1) f fd ps (SpI C pre post) := by
  refine F.ok S (fun vs H Q E ⟨F0, ms, x, dx, args, e, _, _, _, hm, hp, _⟩ => ?_) (fun cdv A outer s H vs Q E hr ⟨F0, ms, x, dx, args, e, hx, fx, ex, hm, hp, q⟩ => ?_)
  · rw [e, List.length_cons, mps_len hm, len ms hp]
  · obtain ⟨t, ht, ha⟩ := h cdv A outer s H E hr
    subst e
    refine ⟨t, ht.nox, ha x ms hp F0 (hideA H x) _ F0 H _ (wd_entI hN hx fx ex hm) ⟨fun A' σ' F' H' w' ⟨i, fs, hi, r⟩ => ?_, fun v m F' H' g p r => r.elim, fun _ _ _ _ _ z => z.elim, fun _ _ _ _ _ z => z.elim, fun _ _ _ _ _ _ _ _ _ _ z => z.elim⟩⟩
    obtain ⟨v, sv, p, o, rfl, h0, hF, hH, hd⟩ := w'.sl i _ hi
    cases o with
    | ins C' dx' vfs =>
      obtain ⟨rfl, rfl, hf⟩ := hd
      refine q F' H' dx' vfs fs ⟨w'.grow.f, fun a u z => ?_, fun a u z => ?_, w'.grow.new⟩ hH hF hf r
      · have ne : a ≠ p := fun y => by rw [y, hF] at z; cases z
        rw [hide_ne ne]
        exact w'.grow.h a u z
      · have ne : a ≠ p := fun y => by rw [y, hide_same] at z; cases z
        rw [hide_ne ne]
        exact w'.grow.hh a u z
    | _ => exact hd.elim
end
end Wp
/-! Operators and built-ins over data. -/
namespace Wp
open PySem PySem.Spec PyProof.Rows L2
section
variable {K : PySem.W.Frag} {P : MP → Prop}
/-- a value that stands already -/
theorem same_world {F H : Hp} (e : Ex F H) {Q : VK} {v : V} {m : MP} (p : m.P F v) (q : P m) (k : ∀ v k F' H', Grow F H F' H' → k.P F' v → P k → Q v H') : Q v H := k v m F H (Grow.refl e) p q
theorem rok_i {f : Int → Int → Int} {i j : Int} (q : P (dI K (f i j))) : ROk (rI0 fun i j => .int (f i j)) (dI K i) (dI K j) P := fun F H x y e p1 p2 Q k => ⟨i, j, p_int p1, p_int p2, same_world e (i_int _) q k⟩
theorem rok_b {f : Int → Int → Bool} {i j : Int} (q : P (dB K (f i j))) : ROk (rI0 fun i j => .bl (f i j)) (dI K i) (dI K j) P := fun F H x y e p1 p2 Q k => ⟨i, j, p_int p1, p_int p2, same_world e (i_bl _) q k⟩
theorem rok_ic {C : Int → Int → Prop} {f : Int → Int → Int} {i j : Int} (hc : C i j) (q : P (dI K (f i j))) : ROk (rI C fun i j => .int (f i j)) (dI K i) (dI K j) P := fun F H x y e p1 p2 Q k => ⟨i, j, p_int p1, p_int p2, hc, same_world e (i_int _) q k⟩
theorem rok_eqI {i j : Int} (q : P (dB K (decide (i = j)))) : ROk rEq (dI K i) (dI K j) P := fun F H x y e p1 p2 Q k => by
  rw [p_int p1, p_int p2]
  refine ⟨rfl, ?_⟩
  have z : decide (V.int i = V.int j) = decide (i = j) := by simp
  rw [z]
  exact same_world e (i_bl _) q k
theorem rok_eqS {i j : Str} (q : P (dB K (decide (i = j)))) : ROk rEq (dS K i) (dS K j) P := fun F H x y e p1 p2 Q k => by
  rw [p_str p1, p_str p2]
  refine ⟨rfl, ?_⟩
  have z : decide (V.str i = V.str j) = decide (i = j) := by simp
  rw [z]
  exact same_world e (i_bl _) q k
theorem rok_neS {i j : Str} (q : P (dB K (!decide (i = j)))) : ROk rNe (dS K i) (dS K j) P := fun F H x y e p1 p2 Q k => by
  rw [p_str p1, p_str p2]
  refine ⟨rfl, ?_⟩
  have z : decide (V.str i = V.str j) = decide (i = j) := by simp
  rw [z]
  exact same_world e (i_bl _) q k
/-- is it None? -/
def nonB : PyData → Bool
  | .none => true
  | _ => false
theorem dq_non {F : Hp} {v : V} : ∀ {d : PyData}, Dq K F v d → decide (v = .non) = nonB d := fun {d} h => by
  cases h <;> first | rfl | simp [nonB]
theorem rok_isN {d : PyData} {n : MP} (hn : n = dN K) (q : P (dB K (nonB d))) : ROk rIsN (dat K d) n P := fun F H x y e p1 p2 Q k => by
  subst hn
  refine ⟨p_non p2, ?_⟩
  rw [dq_non p1]
  exact same_world e (i_bl _) q k
theorem rok_notN {d : PyData} {n : MP} (hn : n = dN K) (q : P (dB K (!nonB d))) : ROk rNotN (dat K d) n P := fun F H x y e p1 p2 Q k => by
  subst hn
  refine ⟨p_non p2, ?_⟩
  rw [dq_non p1]
  exact same_world e (i_bl _) q k
/-- texts in a list, in a tuple -/
theorem dq_strs {F : Hp} : ∀ {xs : List Str} {vs : List V}, DqAll K F vs (xs.map .str) → vs = xs.map V.str
  | [], _, h => by cases h; rfl
  | x :: xs, _, h => by
    cases h with
    | cons a b =>
      cases a
      rw [dq_strs b]
      rfl
theorem inV_strs (x : Str) : ∀ xs : List Str, inV (.str x) (xs.map V.str) = decide (x ∈ xs)
  | [] => rfl
  | y :: r => by
    have ih := inV_strs x r
    unfold inV at ih ⊢
    rw [List.map_cons, List.any_cons, ih]
    have z : eqV (.str y) (.str x) = decide (y = x) := by
      show (y == x) = decide (y = x)
      rw [Bool.beq_eq_decide_eq]
    rw [z]
    by_cases h : y = x
    · subst h; simp
    · have h' : ¬ x = y := fun e => h e.symm
      simp [h, h']
theorem flat_strs (xs : List Str) : (xs.map V.str).all flatV = true := by
  rw [List.all_map]
  exact List.all_eq_true.mpr fun x _ => rfl
theorem rok_inL {x : Str} {xs : List Str} (q : P (dB K (decide (x ∈ xs)))) : ROk (rIn K false) (dS K x) (dL K (xs.map .str)) P := fun F H u v e p1 p2 Q k => by
  obtain ⟨a, vs, rfl, ha, hd⟩ := p_lst p2
  rw [p_str p1]
  rw [dq_strs hd] at ha
  refine ⟨a, _, rfl, .inl (SqL.of (e _ _ ha)), rfl, flat_strs xs, ?_⟩
  show Q (.bl (inV (.str x) (xs.map V.str))) H
  rw [inV_strs]
  exact same_world e (i_bl _) q k
theorem rok_niL {x : Str} {xs : List Str} (q : P (dB K (!decide (x ∈ xs)))) : ROk (rIn K true) (dS K x) (dL K (xs.map .str)) P := fun F H u v e p1 p2 Q k => by
  obtain ⟨a, vs, rfl, ha, hd⟩ := p_lst p2
  rw [p_str p1]
  rw [dq_strs hd] at ha
  refine ⟨a, _, rfl, .inl (SqL.of (e _ _ ha)), rfl, flat_strs xs, ?_⟩
  show Q (.bl (!inV (.str x) (xs.map V.str))) H
  rw [inV_strs]
  exact same_world e (i_bl _) q k
theorem rok_inT {x : Str} {xs : List Str} (q : P (dB K (decide (x ∈ xs)))) : ROk (rIn K false) (dS K x) (dT K (xs.map .str)) P := fun F H u v e p1 p2 Q k => by
  obtain ⟨a, vs, rfl, ha, hd⟩ := p_tup p2
  rw [p_str p1]
  rw [dq_strs hd] at ha
  refine ⟨a, _, rfl, .inr (e.t ha), rfl, flat_strs xs, ?_⟩
  show Q (.bl (inV (.str x) (xs.map V.str))) H
  rw [inV_strs]
  exact same_world e (i_bl _) q k
theorem rok_niT {x : Str} {xs : List Str} (q : P (dB K (!decide (x ∈ xs)))) : ROk (rIn K true) (dS K x) (dT K (xs.map .str)) P := fun F H u v e p1 p2 Q k => by
  obtain ⟨a, vs, rfl, ha, hd⟩ := p_tup p2
  rw [p_str p1]
  rw [dq_strs hd] at ha
  refine ⟨a, _, rfl, .inr (e.t ha), rfl, flat_strs xs, ?_⟩
  show Q (.bl (!inV (.str x) (xs.map V.str))) H
  rw [inV_strs]
  exact same_world e (i_bl _) q k
/-- one sign in a text -/
theorem rok_inS {c : Nat} {z : Str} (q : P (dB K (decide (c ∈ z.cps.toList)))) : ROk rInS (dS K ⟨#[c]⟩) (dS K z) P := fun F H u v e p1 p2 Q k => by
  rw [p_str p1, p_str p2]
  exact ⟨c, z, rfl, rfl, same_world e (i_bl _) q k⟩
/-- items -/
theorem dq_at {F : Hp} {vs : List V} {ds : List PyData} {i : Int} {d : PyData} (h : DqAll K F vs ds) (e : atI ds i = some d) : ∃ v, atI vs i = some v ∧ Dq K F v d := by
  unfold atI at e ⊢
  rw [h.len]
  cases z : ixN ds.length i with
  | none => rw [z] at e; cases e
  | some j =>
    rw [z] at e
    obtain ⟨v, hv, hd⟩ := h.get (show ds[j]? = some d from e)
    exact ⟨v, hv, hd⟩
theorem rok_ixL {ds : List PyData} {i : Int} {d : PyData} (h : atI ds i = some d) (q : P (dat K d)) : ROk (rIxL K) (dL K ds) (dI K i) P := fun F H u v e p1 p2 Q k => by
  obtain ⟨a, vs, rfl, ha, hd⟩ := p_lst p1
  obtain ⟨x, hx, px⟩ := dq_at hd h
  rw [p_int p2]
  exact ⟨a, vs, i, x, rfl, rfl, SqL.of (e _ _ ha), hx, same_world e (m := dat K d) px q k⟩
theorem rok_ixT {ds : List PyData} {i : Int} {d : PyData} (h : atI ds i = some d) (q : P (dat K d)) : ROk (rIxT K) (dT K ds) (dI K i) P := fun F H u v e p1 p2 Q k => by
  obtain ⟨a, vs, rfl, ha, hd⟩ := p_tup p1
  obtain ⟨x, hx, px⟩ := dq_at hd h
  rw [p_int p2]
  exact ⟨a, vs, i, x, rfl, rfl, e.t ha, hx, same_world e (m := dat K d) px q k⟩
theorem rok_ixS {z : Str} {i : Int} {c : Nat} (hz : z.length ≤ 100000) (h : atI z.cps.toList i = some c) (q : P (dS K ⟨#[c]⟩)) : ROk rIxS (dS K z) (dI K i) P := fun F H u v e p1 p2 Q k => by
  rw [p_str p1, p_int p2]
  exact ⟨z, i, c, rfl, rfl, Nat.le_trans hz (by decide), h, same_world e (i_str _) q k⟩
/-- texts -/
def rAddStr : R2 := fun x y H Q => ∃ i j, x = .str i ∧ y = .str j ∧ i.length + j.length ≤ sizeLine ∧ Q (.str (i ++ j)) H
theorem op_addStr {X : Cx} : OpR X (binaryOp .Add) rAddStr := op_add_str
theorem rok_addS {x y : Str} (h : x.length + y.length ≤ 100000) (q : P (dS K (x ++ y))) : ROk rAddStr (dS K x) (dS K y) P := fun F H u v e p1 p2 Q k => by
  rw [p_str p1, p_str p2]
  exact ⟨x, y, rfl, rfl, Nat.le_trans h (by decide), same_world e (i_str _) q k⟩
/-- lists -/
theorem rok_cat {ds es : List PyData} (h : ds.length + es.length ≤ 100000) (q : P (dL K (ds ++ es))) : ROk rCat (dL K ds) (dL K es) P := fun F H u v e p1 p2 Q k => by
  obtain ⟨a, vs, rfl, ha, hd⟩ := p_lst p1
  obtain ⟨b, us, rfl, hb, hg⟩ := p_lst p2
  refine ⟨a, b, vs, us, rfl, rfl, e _ _ ha, e _ _ hb, ?_, fun p hp => ?_⟩
  · rw [hd.len, hg.len]
    exact Nat.le_trans h (by decide)
  · have g := Grow.add (o := .lst (vs ++ us)) e hp
    exact k _ (dL K (ds ++ es)) _ _ g (Dq.lst upd_same (DqAll.app (DqAll.ex g.f _ _ hd) (DqAll.ex g.f _ _ hg))) q
/-- data compared -/
theorem rok_neD {d e' : PyData} (sd : SeqAt.shaped d = true) (se : SeqAt.shaped e' = true) (q : P (dB K (!PyData.eqv d e'))) : ROk (rNeD K) (dat K d) (dat K e') P := fun F H u v e p1 p2 Q k =>
  ⟨d, e', Dp.ex e _ _ (Dq.dp _ _ p1), Dp.ex e _ _ (Dq.dp _ _ p2), sd, se, same_world e (i_bl _) q k⟩
theorem rok_eqD {d e' : PyData} (sd : SeqAt.shaped d = true) (se : SeqAt.shaped e' = true) (q : P (dB K (PyData.eqv d e'))) : ROk (rEqD K) (dat K d) (dat K e') P := fun F H u v e p1 p2 Q k =>
  ⟨d, e', Dp.ex e _ _ (Dq.dp _ _ p1), Dp.ex e _ _ (Dq.dp _ _ p2), sd, se, same_world e (i_bl _) q k⟩
/-- deep membership in a list, in a tuple -/
theorem rok_inD {d : PyData} {ds : List PyData} (sd : SeqAt.shaped d = true) (se : SeqAt.shaped (.list ds) = true) (q : P (dB K (ds.any fun z => PyData.eqv z d))) : ROk (rInD K) (dat K d) (dL K ds) P := fun F H u v e p1 p2 Q k =>
  ⟨d, ds, Dp.ex e _ _ (Dq.dp _ _ p1), Dp.ex e _ _ (Dq.dp _ _ p2), sd, se, same_world e (i_bl _) q k⟩
def rInDT (K : PySem.W.Frag) : R2 := fun x y H Q => ∃ d ds, Dp K H x d ∧ Dp K H y (.tuple ds) ∧ SeqAt.shaped d = true ∧ SeqAt.shaped (.tuple ds) = true ∧ Q (.bl (ds.any fun z => PyData.eqv z d)) H
def rNiDT (K : PySem.W.Frag) : R2 := fun x y H Q => ∃ d ds, Dp K H x d ∧ Dp K H y (.tuple ds) ∧ SeqAt.shaped d = true ∧ SeqAt.shaped (.tuple ds) = true ∧ Q (.bl (!ds.any fun z => PyData.eqv z d)) H
theorem rok_inDT {d : PyData} {ds : List PyData} (sd : SeqAt.shaped d = true) (se : SeqAt.shaped (.tuple ds) = true) (q : P (dB K (ds.any fun z => PyData.eqv z d))) : ROk (rInDT K) (dat K d) (dT K ds) P := fun F H u v e p1 p2 Q k =>
  ⟨d, ds, Dp.ex e _ _ (Dq.dp _ _ p1), Dp.ex e _ _ (Dq.dp _ _ p2), sd, se, same_world e (i_bl _) q k⟩
theorem rok_niDT {d : PyData} {ds : List PyData} (sd : SeqAt.shaped d = true) (se : SeqAt.shaped (.tuple ds) = true) (q : P (dB K (!ds.any fun z => PyData.eqv z d))) : ROk (rNiDT K) (dat K d) (dT K ds) P := fun F H u v e p1 p2 Q k =>
  ⟨d, ds, Dp.ex e _ _ (Dq.dp _ _ p1), Dp.ex e _ _ (Dq.dp _ _ p2), sd, se, same_world e (i_bl _) q k⟩
section
variable {X : Cx}
theorem op_inDT (hu : X.A.units + 65 < cLine) : OpR X (compareOp .In) (rInDT X.K) := by
  intro pins s σ H x y v u Q I rx ry h
  obtain ⟨d, ds, hd, he, sd, se, q⟩ := h
  obtain ⟨as, r1⟩ := Dp.reads I d x v hd rx
  obtain ⟨bs, r2⟩ := Dp.reads I (.tuple ds) y u he ry
  exact SeqAt.in_tuple_reads r2 r1 (SeqAt.canLay_of_shaped se) (SeqAt.canLay_of_shaped sd) (room_in_shaped sd hu) ⟨.bl _, H, I, rfl, q⟩
theorem op_niDT (hu : X.A.units + 65 < cLine) : OpR X (compareOp .NotIn) (rNiDT X.K) := by
  intro pins s σ H x y v u Q I rx ry h
  obtain ⟨d, ds, hd, he, sd, se, q⟩ := h
  obtain ⟨as, r1⟩ := Dp.reads I d x v hd rx
  obtain ⟨bs, r2⟩ := Dp.reads I (.tuple ds) y u he ry
  exact SeqAt.notIn_tuple_reads r2 r1 (SeqAt.canLay_of_shaped se) (SeqAt.canLay_of_shaped sd) (room_in_shaped sd hu) ⟨.bl _, H, I, rfl, q⟩
end
/-- slices -/
theorem dq_cut {F : Hp} {vs : List V} {ds : List PyData} (h : DqAll K F vs ds) (lo hi : Option Int) : DqAll K F (cutV vs lo hi) ((ds.drop (HT.sIx ds.length 0 lo)).take (HT.sIx ds.length ds.length hi - HT.sIx ds.length 0 lo)) := by
  unfold cutV
  rw [h.len]
  exact DqAll.take _ (DqAll.drop _ h)
def cutD (ds : List PyData) (lo hi : Option Int) : List PyData := (ds.drop (HT.sIx ds.length 0 lo)).take (HT.sIx ds.length ds.length hi - HT.sIx ds.length 0 lo)
theorem sok_list {ds : List PyData} {lo hi : Option Int} (q : P (dL K (cutD ds lo hi))) : SOk (rSlL K) (dL K ds) lo hi P := fun F H x e p1 Q k => by
  obtain ⟨a, vs, rfl, ha, hd⟩ := p_lst p1
  refine ⟨a, vs, rfl, SqL.of (e _ _ ha), fun p hp => ?_⟩
  have g := Grow.add (o := .lst (cutV vs lo hi)) e hp
  exact k _ (dL K (cutD ds lo hi)) _ _ g (Dq.lst upd_same (DqAll.ex g.f _ _ (dq_cut hd lo hi))) q
theorem sok_scr {ns : List Int} {lo hi : Option Int} (q : P (dL K ((cutV (ns.map V.int) lo hi).map fun v => match v with | .int i => PyData.int i | _ => .none))) : SOk (rSlL K) (scr K ns) lo hi P := fun F H x e p1 Q k => by
  obtain ⟨a, rfl, ha⟩ := p1
  refine ⟨a, _, rfl, e.l ha, fun p hp => ?_⟩
  have g := Grow.add (o := .lst (cutV (ns.map V.int) lo hi)) e hp
  refine k _ _ _ _ g (Dq.lst upd_same ?_) q
  have all : ∀ vs : List V, (∀ v ∈ vs, ∃ i, v = V.int i) → DqAll K (upd F p (.lst (cutV (ns.map V.int) lo hi))) vs (vs.map fun v => match v with | .int i => PyData.int i | _ => .none) := by
    intro vs
    induction vs with
    | nil => intro _; exact .nil
    | cons v vs ih =>
      intro h
      obtain ⟨i, rfl⟩ := h v List.mem_cons_self
      exact .cons (Dq.int i) (ih fun u hu => h u (List.mem_cons_of_mem _ hu))
  refine all _ fun v hv => ?_
  have hv' : v ∈ ns.map V.int := List.mem_of_mem_drop (List.mem_of_mem_take hv)
  obtain ⟨i, _, rfl⟩ := List.mem_map.mp hv'
  exact ⟨i, rfl⟩
/-! ### built-ins -/
def rLenA (K : PySem.W.Frag) : List V → Hp → VK → Prop := fun xs H Q => ∃ x n, xs = [x] ∧ LenV K x H n ∧ Q (.int n) H
theorem call_lenA {X : Cx} : CallR X (.builtin "len") (rLenA X.K) := call_len
theorem cok_lenL {ds : List PyData} (q : P (dI K (ds.length : Nat))) : COk (rLenA K) [dL K ds] P := fun F H xs e p Q k => by
  obtain ⟨x, rfl, px⟩ := mps1 p
  obtain ⟨a, vs, rfl, ha, hd⟩ := p_lst px
  exact ⟨_, ds.length, rfl, .inl ⟨vs, SqL.of (e _ _ ha), hd.len.symm⟩, same_world e (i_int _) q k⟩
theorem cok_lenT {ds : List PyData} (q : P (dI K (ds.length : Nat))) : COk (rLenA K) [dT K ds] P := fun F H xs e p Q k => by
  obtain ⟨x, rfl, px⟩ := mps1 p
  obtain ⟨a, vs, rfl, ha, hd⟩ := p_tup px
  exact ⟨_, ds.length, rfl, .inr ⟨vs, e.t ha, hd.len.symm⟩, same_world e (i_int _) q k⟩
theorem cok_lenS {z : Str} (h : z.length ≤ 100000) (q : P (dI K (z.length : Nat))) : COk (rLenA K) [dS K z] P := fun F H xs e p Q k => by
  obtain ⟨x, rfl, px⟩ := mps1 p
  rw [p_str px]
  exact ⟨_, z.length, rfl, ⟨Nat.le_trans h (by decide), rfl⟩, same_world e (i_int _) q k⟩
def rAbs : List V → Hp → VK → Prop := fun xs H Q => ∃ i, xs = [.int i] ∧ Q (.int (if i < 0 then -i else i)) H
theorem call_absA {X : Cx} : CallR X (.builtin "abs") rAbs := call_abs
theorem cok_abs {i : Int} (q : P (dI K (if i < 0 then -i else i))) : COk rAbs [dI K i] P := fun F H xs e p Q k => by
  obtain ⟨x, rfl, px⟩ := mps1 p
  rw [p_int px]
  exact ⟨i, rfl, same_world e (i_int _) q k⟩
def rInt1 : List V → Hp → VK → Prop := fun xs H Q => (∃ i, xs = [.int i] ∧ Q (.int i) H) ∨ ∃ k, xs = [.bl k] ∧ Q (.int (if k then 1 else 0)) H
theorem call_intA {X : Cx} : CallR X (.type "int") rInt1 := call_int1
theorem cok_int {i : Int} (q : P (dI K i)) : COk rInt1 [dI K i] P := fun F H xs e p Q k => by
  obtain ⟨x, rfl, px⟩ := mps1 p
  rw [p_int px]
  exact .inl ⟨i, rfl, same_world e (i_int _) q k⟩
def rMax2 : List V → Hp → VK → Prop := fun xs H Q => ∃ i j, xs = [.int i, .int j] ∧ Q (.int (if j > i then j else i)) H
theorem call_maxA {X : Cx} (hc : X.calm = true) : CallR X (.builtin "max") rMax2 := call_max2 hc
theorem cok_max {i j : Int} (q : P (dI K (if j > i then j else i))) : COk rMax2 [dI K i, dI K j] P := fun F H xs e p Q k => by
  obtain ⟨x, y, rfl, px, py⟩ := mps2 p
  rw [p_int px, p_int py]
  exact ⟨i, j, rfl, same_world e (i_int _) q k⟩
def rMin2 : List V → Hp → VK → Prop := fun xs H Q => ∃ i j, xs = [.int i, .int j] ∧ Q (.int (if j < i then j else i)) H
theorem call_minA {X : Cx} (hc : X.calm = true) : CallR X (.builtin "min") rMin2 := call_min2 hc
theorem cok_min {i j : Int} (q : P (dI K (if j < i then j else i))) : COk rMin2 [dI K i, dI K j] P := fun F H xs e p Q k => by
  obtain ⟨x, y, rfl, px, py⟩ := mps2 p
  rw [p_int px, p_int py]
  exact ⟨i, j, rfl, same_world e (i_int _) q k⟩
def rTup (K : PySem.W.Frag) : List V → Hp → VK → Prop := fun xs H Q => ∃ p ys, xs = [.ref p] ∧ ((SqL K H p ys ∧ ∀ l, H l = none → Q (.ref l) (upd H l (.tup ys))) ∨ (SqT K H p ys ∧ Q (.ref p) H))
theorem call_tupA {X : Cx} : CallR X (.type "tuple") (rTup X.K) := call_tuple_of
theorem cok_tupL {ds : List PyData} (q : P (dT K ds)) : COk (rTup K) [dL K ds] P := fun F H xs e p Q k => by
  obtain ⟨x, rfl, px⟩ := mps1 p
  obtain ⟨a, vs, rfl, ha, hd⟩ := p_lst px
  refine ⟨a, vs, rfl, .inl ⟨SqL.of (e _ _ ha), fun l hl => ?_⟩⟩
  have g := Grow.add (o := .tup vs) e hl
  exact k _ (dT K ds) _ _ g (Dq.tup (SqT.of upd_same) (DqAll.ex g.f _ _ hd)) q
theorem cok_tupT {ds : List PyData} (q : P (dT K ds)) : COk (rTup K) [dT K ds] P := fun F H xs e p Q k => by
  obtain ⟨x, rfl, px⟩ := mps1 p
  obtain ⟨a, vs, rfl, ha, hd⟩ := p_tup px
  exact ⟨a, vs, rfl, .inr ⟨e.t ha, same_world e (m := dT K ds) px q k⟩⟩
/-- all, any -/
theorem dq_bls {F : Hp} : ∀ {bs : List Bool} {vs : List V}, DqAll K F vs (bs.map .bool) → vs = bs.map V.bl
  | [], _, h => by cases h; rfl
  | x :: xs, _, h => by
    cases h with
    | cons a b =>
      cases a
      rw [dq_bls b]
      rfl
theorem cok_all {bs : List Bool} (q : P (dB K (bs.all id))) : COk (rAll K) [dL K (bs.map .bool)] P := fun F H xs e p Q k => by
  obtain ⟨x, rfl, px⟩ := mps1 p
  obtain ⟨a, vs, rfl, ha, hd⟩ := p_lst px
  rw [dq_bls hd] at ha
  exact ⟨a, bs, rfl, SqL.of (e _ _ ha), same_world e (i_bl _) q k⟩
theorem cok_any {bs : List Bool} (q : P (dB K (bs.any id))) : COk (rAny K) [dL K (bs.map .bool)] P := fun F H xs e p Q k => by
  obtain ⟨x, rfl, px⟩ := mps1 p
  obtain ⟨a, vs, rfl, ha, hd⟩ := p_lst px
  rw [dq_bls hd] at ha
  exact ⟨a, bs, rfl, SqL.of (e _ _ ha), same_world e (i_bl _) q k⟩
/-- sorted of texts -/
theorem cok_sortS {xs : List Str} (hl : xs.length < 64) (q : ∀ ys : List Str, ys.Perm xs → P (dL K (ys.map .str))) : COk (rSortedS K) [dL K (xs.map .str)] P := fun F H us e p Q k => by
  obtain ⟨x, rfl, px⟩ := mps1 p
  obtain ⟨a, vs, rfl, ha, hd⟩ := p_lst px
  rw [dq_strs hd] at ha
  refine ⟨a, xs, rfl, SqL.of (e _ _ ha), hl, fun ys p hp _ hn => ?_⟩
  have g := Grow.add (o := .lst (ys.map V.str)) e hn
  have all : ∀ (F : Hp) (zs : List Str), DqAll K F (zs.map V.str) (zs.map .str) := by
    intro F zs
    induction zs with
    | nil => exact .nil
    | cons z zs ih => exact .cons (Dq.str z) ih
  exact k _ (dL K (ys.map .str)) _ _ g (Dq.lst upd_same (all _ ys)) (q ys hp)
end
end Wp
/-! sorted of tuples that begin with two texts which tell them apart. -/
namespace Wp
open PySem PySem.Spec PyProof.Rows L2
abbrev Txt2 := List Nat × List Nat
def lx (p q : Txt2) : Bool := if p.1 = q.1 then decide (p.2 < q.2) else decide (p.1 < q.1)
theorem nl_lt_total (a b : List Nat) : a < b ∨ a = b ∨ b < a := by
  by_cases h : a < b
  · exact .inl h
  · by_cases h2 : b < a
    · exact .inr (.inr h2)
    · exact .inr (.inl (List.le_antisymm (List.not_lt.mp h2) (List.not_lt.mp h)))
theorem lx_iff {p q : Txt2} : lx p q = true ↔ p.1 < q.1 ∨ (p.1 = q.1 ∧ p.2 < q.2) := by
  unfold lx
  by_cases e : p.1 = q.1
  · rw [if_pos e, decide_eq_true_eq, e]
    constructor
    · intro h; exact .inr ⟨rfl, h⟩
    · rintro (h | h)
      · exact absurd h (List.lt_irrefl _)
      · exact h.2
  · rw [if_neg e, decide_eq_true_eq]
    constructor
    · intro h; exact .inl h
    · rintro (h | h)
      · exact h
      · exact absurd h.1 e
theorem lx_no {p q : Txt2} (h : lx p q = false) : q.1 < p.1 ∨ (q.1 = p.1 ∧ (q.2 < p.2 ∨ q.2 = p.2)) := by
  have n : ¬ (p.1 < q.1 ∨ (p.1 = q.1 ∧ p.2 < q.2)) := fun z => by rw [lx_iff.mpr z] at h; cases h
  rcases nl_lt_total p.1 q.1 with z | z | z
  · exact absurd (.inl z) n
  · rcases nl_lt_total p.2 q.2 with y | y | y
    · exact absurd (.inr ⟨z, y⟩) n
    · exact .inr ⟨z.symm, .inr y.symm⟩
    · exact .inr ⟨z.symm, .inl y⟩
  · exact .inl z
theorem lx_of_no {p q : Txt2} (h : q.1 < p.1 ∨ (q.1 = p.1 ∧ (q.2 < p.2 ∨ q.2 = p.2))) : lx p q = false := by
  cases z : lx p q with
  | false => rfl
  | true =>
    rcases lx_iff.mp z with y | ⟨y1, y2⟩
    · rcases h with h | ⟨h, _⟩
      · exact absurd (List.lt_trans h y) (List.lt_irrefl _)
      · rw [h] at y; exact absurd y (List.lt_irrefl _)
    · rcases h with h | ⟨_, h | h⟩
      · rw [y1] at h; exact absurd h (List.lt_irrefl _)
      · exact absurd (List.lt_trans h y2) (List.lt_irrefl _)
      · rw [h] at y2; exact absurd y2 (List.lt_irrefl _)
theorem lx_swo {α : Type} (k : α → Txt2) : SrtO.Swo fun x y => lx (k x) (k y) := by
  refine ⟨fun x y h => ?_, fun x y z h1 h2 => ?_⟩
  · rcases lx_iff.mp h with a | ⟨a, b⟩
    · exact lx_of_no (.inl a)
    · exact lx_of_no (.inr ⟨a, .inl b⟩)
  · have a := lx_no h1
    have b := lx_no h2
    refine lx_of_no ?_
    rcases a with a | ⟨a1, a2⟩
    · rcases b with b | ⟨b1, _⟩
      · exact .inl (List.lt_trans a b)
      · exact .inl (b1 ▸ a)
    · rcases b with b | ⟨b1, b2⟩
      · exact .inl (a1 ▸ b)
      · refine .inr ⟨a1.trans b1, ?_⟩
        rcases a2 with a2 | a2
        · rcases b2 with b2 | b2
          · exact .inl (List.lt_trans a2 b2)
          · exact .inl (b2 ▸ a2)
        · rcases b2 with b2 | b2
          · exact .inl (a2 ▸ b2)
          · exact .inr (a2.trans b2)
/-- a tuple that begins with the texts x, y -/
def IsTT (h : Heap) (v : Value) (x y : Str) : Prop := ∃ a o its n t u r, v = .ref a ∧ h.get? a = some o ∧ o.cls = .type "tuple" ∧ o.data = .seq its n ∧ its.toList = .str x t :: .str y u :: r
theorem IsTT.keeps {h h' : Heap} {v : Value} {x y : Str} (p : IsTT h v x y) (k : ∀ b o, h.get? b = some o → o.cls = .type "tuple" → h'.get? b = some o) : IsTT h' v x y := by
  obtain ⟨a, o, its, n, t, u, r, e, ho, hc, hd, hi⟩ := p
  exact ⟨a, o, its, n, t, u, r, e, k _ _ ho hc, hc, hd, hi⟩
section
variable {prog : Program} {w : World} {A : Around} {E : Value → Shared → Prop} {s : Shared}
theorem kat_same {b : Bool} {Q : Bool → Shared → Prop} (q : Q false s) : ∀ (l : List Value) (i : Nat), PySem.W.KatLex prog w A b false Q (l.zip l) i s
  | [], _ => PySem.W.kat_nil q
  | v :: l, i => PySem.W.kat_cons (SeqAt.EqAt.same v prog w _ _ (PySem.W.kat_yes (kat_same q l (i + 1))))
theorem tt_cmp {vs : List Value} {k : Value → Str × Str} (hp : ∀ v ∈ vs, IsTT s.heap v (k v).1 (k v).2) (hi : ∀ v ∈ vs, ∀ u ∈ vs, k v = k u → v = u) :
    SrtO.Cmp prog w A s (tuples' true) (fun p => p.1 ∈ vs) (SrtO.lt2 fun v u => lx ((k v).1.cps.toList, (k v).2.cps.toList) ((k u).1.cps.toList, (k u).2.cps.toList)) := by
  intro p q hm hm'
  have h1 := hp _ hm
  have h2 := hp _ hm'
  have hs := hi _ hm _ hm'
  show wpAny (model prog w) A (keyLt' (tuples' true) p.1 q.1) (fun r s' => s' = s ∧ r = lx ((k p.1).1.cps.toList, (k p.1).2.cps.toList) ((k q.1).1.cps.toList, (k q.1).2.cps.toList)) (fun _ _ => False) s
  generalize k p.1 = kp at h1 hs ⊢
  generalize k q.1 = kq at h2 hs ⊢
  obtain ⟨x, y⟩ := kp
  obtain ⟨x', y'⟩ := kq
  obtain ⟨a, o, its, n, t, u, r, e, ho, hc, hd, ht⟩ := h1
  obtain ⟨a', o', its', n', t', u', r', e', ho', hc', hd', ht'⟩ := h2
  dsimp only at ht ht' ⊢
  unfold lx
  dsimp only
  have inj : ∀ {z z' : Str}, z.cps.toList = z'.cps.toList → z = z' := fun {z z'} h => by
    cases z; cases z'
    congr
    exact Array.toList_inj.mp h
  by_cases same : (x, y) = ((x', y') : Str × Str)
  · -- the same object
    have ev := hs same
    cases same
    rw [e, e'] at ev
    cases ev
    rw [ho] at ho'
    cases ho'
    rw [hd] at hd'
    cases hd'
    rw [e, e']
    refine PySem.W.kat_lt ho hd ho hd ?_
    have fin : decide (its.size < its.size) = false := decide_eq_false (Nat.lt_irrefl _)
    rw [fin]
    refine kat_same ⟨rfl, ?_⟩ its.toList 0
    rw [if_pos rfl]
    exact (decide_eq_false (List.lt_irrefl _)).symm
  · rw [e, e']
    refine PySem.W.kat_lt ho hd ho' hd' ?_
    rw [ht, ht', List.zip_cons_cons, List.zip_cons_cons]
    refine PySem.W.kat_cons (SeqAt.EqAt.str_str x t x' t' prog w _ _ ?_)
    refine PySem.W.kat_go (fun e1 => ?_) (fun e1 => ?_)
    · have ex : x = x' := by simpa using e1
      refine PySem.W.kat_yes (PySem.W.kat_cons (SeqAt.EqAt.str_str y u y' u' prog w _ _ ?_))
      refine PySem.W.kat_go (fun e2 => ?_) (fun e2 => ?_)
      · have ey : y = y' := by simpa using e2
        exact absurd (by rw [ex, ey]) same
      · have e3 : (if x.cps.toList = x'.cps.toList then decide (y.cps.toList < y'.cps.toList) else decide (x.cps.toList < x'.cps.toList)) = decide (y.cps.toList < y'.cps.toList) := if_pos (by rw [ex])
        refine PySem.W.kat_no (PySem.W.kat_one _ _ (PyProof.Rows.lt_str ?_))
        exact (show s = s ∧ decide (y.cps.toList < y'.cps.toList) = _ from ⟨rfl, e3.symm⟩)
    · have ex : ¬ x = x' := by simpa using e1
      have e3 : (if x.cps.toList = x'.cps.toList then decide (y.cps.toList < y'.cps.toList) else decide (x.cps.toList < x'.cps.toList)) = decide (x.cps.toList < x'.cps.toList) := if_neg fun z => ex (inj z)
      exact PySem.W.kat_no (oneLt_str ⟨rfl, e3.symm⟩)
theorem tt_firsts {h : Heap} : ∀ {vs : List Value}, (∀ v ∈ vs, ∃ x y, IsTT h v x y) → ∃ fs : List Value, PySem.W.KatTups h vs fs ∧ fs.length = vs.length ∧ ∀ f ∈ fs, ∃ x t, f = Value.str x t
  | [], _ => ⟨[], PySem.W.KatTups.nil, rfl, fun _ hm => by simp at hm⟩
  | v :: vs, hp => by
    obtain ⟨fs, h1, h2, h3⟩ := tt_firsts (vs := vs) fun v' hm => hp v' (List.mem_cons_of_mem _ hm)
    obtain ⟨x, y, a, o, its, n, t, u, r, e, ho, hc, hd, ht⟩ := hp v (List.mem_cons_self ..)
    subst e
    have h0 : its[0]? = some (.str x t) := by
      rw [← Array.getElem?_toList, ht]
      rfl
    refine ⟨.str x t :: fs, PySem.W.KatTups.cons ho hc hd h0 h1, by rw [List.length_cons, List.length_cons, h2], fun f hm => ?_⟩
    rcases List.mem_cons.mp hm with rfl | hm
    · exact ⟨x, t, rfl⟩
    · exact h3 f hm
theorem tt_sortable {a : Addr} {vs : List Value} {k : Value → Str × Str} (h0 : 0 < vs.length) (hp : ∀ v ∈ vs, IsTT s.heap v (k v).1 (k v).2) (hi : ∀ v ∈ vs, ∀ u ∈ vs, k v = k u → v = u) (ha : ∀ o, s.heap.get? a = some o → o.cls ≠ .type "tuple") :
    SrtO.SortableO prog w A s a vs fun v u => lx ((k v).1.cps.toList, (k v).2.cps.toList) ((k u).1.cps.toList, (k u).2.cps.toList) := by
  intro h' keep
  have hp' : ∀ v ∈ vs, IsTT h' v (k v).1 (k v).2 := fun v hm => (hp v hm).keeps fun b o e c => keep b o (fun z => by subst z; exact ha o e c) e
  obtain ⟨fs, h1, h2, h3⟩ := tt_firsts fun v hm => ⟨_, _, hp' v hm⟩
  refine ⟨tuples' true, fun Q E hq => ?_, tt_cmp hp' hi⟩
  refine PySem.W.kat_kind (T := .type "str") h1 (by omega) (fun f hm => ?_) (by rfl) ?_
  · obtain ⟨x, t, rfl⟩ := h3 f hm
    exact PySem.W.Looks.now
  · have e : (Value.type "str" != Value.type "tuple") = true := by decide +kernel
    rw [e]
    exact hq
theorem sorted_tt {l : Addr} {vs : List Value} {k : Value → Str × Str} {Q : Value → Shared → Prop} (hl : s.heap.IsList l vs.toArray) (hz : vs.length ≤ sizeLine) (hp : ∀ v ∈ vs, IsTT s.heap v (k v).1 (k v).2) (hi : ∀ v ∈ vs, ∀ u ∈ vs, k v = k u → v = u)
    (h : ∀ (h' : Heap) (d : Addr) (out : List Value), out.Perm vs → (∀ b o, s.heap.get? b = some o → h'.get? b = some o) → s.heap.objs.size ≤ d → (∃ n, h'.get? d = some (seqObj "list" out.toArray n)) → Q (.ref d) { s with heap := h' }) :
    wpAny (model prog w) A (call (.builtin "sorted") [.ref l]) Q E s := by
  refine SrtO.sorted_ord (lx_swo fun v : Value => ((k v).1.cps.toList, (k v).2.cps.toList)) hl hz (fun h2 h₁ a ha kk => ?_) fun out hs hb => ?_
  · refine tt_sortable (s := { s with heap := h₁ }) (by omega) (fun v hm => (hp v hm).keeps fun b o e _ => (kk b o e).2) hi fun o e => ?_
    have e' : some o = some (seqObj "list" vs.toArray 0) := e.symm.trans ha
    cases e'
    intro c
    exact absurd (Value.type.inj c) (by decide)
  · exact h _ _ out hb.perm (fun b o e => sortedAll_old e) (Nat.le_succ _) (sortedAll_at s.heap vs out.toArray)
end
/-! ### as a rule over data -/
def rSortTT (K : PySem.W.Frag) : List V → Hp → VK → Prop := fun vs H Q => ∃ (a : Addr) (xs : List V) (k : V → Str × Str), vs = [V.ref a] ∧ SqL K H a xs ∧ (∀ x ∈ xs, ∃ t r, x = V.ref t ∧ SqT K H t (.str (k x).1 :: .str (k x).2 :: r)) ∧ (∀ x ∈ xs, ∀ y ∈ xs, k x = k y → x = y) ∧
  ∀ ys p, ys.Perm xs → H p = none → Q (.ref p) (upd H p (.lst ys))
section
variable {X : Cx}
theorem cr_sortTT : CallR X (.builtin "sorted") (rSortTT X.K) := by
  intro pins s σ H vs us Q I r h
  obtain ⟨a, xs, k, rfl, hs, hx, hi, q⟩ := h
  obtain ⟨its, rv, hl, hz⟩ := I.list hs
  obtain ⟨u, rfl, ru⟩ := vals1 r
  obtain rfl : u = Value.ref a := ru
  obtain ⟨e1, e2⟩ := refs_back rv fun x m => by
    obtain ⟨t, _, e, _⟩ := hx x m
    exact ⟨t, e⟩
  have inx : ∀ t, Value.ref t ∈ its → V.ref t ∈ xs := fun t hv => by rw [e1]; exact List.mem_map.mpr ⟨_, hv, rfl⟩
  refine sorted_tt (k := fun u => k (backV u)) hl.isList (by rw [← rv.length]; exact hz) (fun v hv => ?_) (fun v hv u hu e => ?_) fun h' d out h2 kp hd hn => ?_
  · obtain ⟨t, rfl⟩ := e2 v hv
    obtain ⟨t', rr, e, ht⟩ := hx _ (inx t hv)
    cases e
    obtain ⟨its2, r2, ⟨o, ho, hc, n, hd⟩, _⟩ := I.tuple ht
    cases r2 with
    | cons ra r3 =>
      cases r3 with
      | cons rb r4 =>
        obtain ⟨t1, rfl⟩ := ra
        obtain ⟨t2, rfl⟩ := rb
        exact ⟨t, o, _, n, t1, t2, _, rfl, ho, hc, hd, rfl⟩
  · obtain ⟨t, rfl⟩ := e2 v hv
    obtain ⟨t', rfl⟩ := e2 u hu
    have z := hi _ (inx t hv) _ (inx t' hu) e
    cases z
    rfl
  · have h3 : ∀ u ∈ out, ∃ a, u = Value.ref a := fun u hu => e2 u (h2.mem_iff.mp hu)
    obtain ⟨n, hn⟩ := hn
    have hb : (out.map backV).Perm xs := by
      rw [e1]
      exact h2.map backV
    refine ⟨.ref d, upd H d (.lst (out.map backV)), I.laid (t' := s.toks) kp hd ⟨?_, out, n, vals_back h3, hn⟩, rfl, q _ d hb (I.hok.fresh hd)⟩
    rw [hb.length_eq]
    exact hz
end
theorem dq_perm {K : PySem.W.Frag} {F : Hp} {ys xs : List V} (p : ys.Perm xs) : ∀ {ds : List PyData}, DqAll K F xs ds → ∃ es, es.Perm ds ∧ DqAll K F ys es := by
  induction p with
  | nil => intro ds h; cases h; exact ⟨[], .refl _, .nil⟩
  | cons x p ih =>
    intro ds h
    cases h with
    | cons a b =>
      obtain ⟨es, q, r⟩ := ih b
      exact ⟨_ :: es, q.cons _, .cons a r⟩
  | swap x y l =>
    intro ds h
    cases h with
    | cons a b =>
      cases b with
      | cons b c => exact ⟨_, List.Perm.swap _ _ _, .cons b (.cons a c)⟩
  | trans p1 p2 ih1 ih2 =>
    intro ds h
    obtain ⟨es, q, r⟩ := ih2 h
    obtain ⟨fs, q2, r2⟩ := ih1 r
    exact ⟨fs, q2.trans q, r2⟩
/-- the two texts at a tuple's head -/
def hd2 : PyData → Str × Str
  | .tuple (.str x :: .str y :: _) => (x, y)
  | _ => (⟨#[]⟩, ⟨#[]⟩)
def IsHd2 (d : PyData) : Prop := ∃ x y r, d = .tuple (.str x :: .str y :: r)
theorem cok_sortTT {K : PySem.W.Frag} {P : MP → Prop} {ds : List PyData} (hd : ∀ d ∈ ds, IsHd2 d) (hn : (ds.map hd2).Nodup) (q : ∀ es : List PyData, es.Perm ds → P (dL K es)) : COk (rSortTT K) [dL K ds] P := fun F H us e p Q k => by
  obtain ⟨x, rfl, px⟩ := mps1 p
  obtain ⟨a, vs, rfl, ha, hds⟩ := p_lst px
  -- what a value's texts are
  have key : ∃ kf : V → Str × Str, (∀ x ∈ vs, ∃ t r, x = V.ref t ∧ SqT K F t (.str (kf x).1 :: .str (kf x).2 :: r)) ∧ ∀ x ∈ vs, ∀ y ∈ vs, kf x = kf y → x = y := by
    have ex : ∀ x : V, ∃ i : Nat, x ∈ vs → vs[i]? = some x := fun x => by
      by_cases h : x ∈ vs
      · obtain ⟨i, hi⟩ := List.mem_iff_getElem?.mp h
        exact ⟨i, fun _ => hi⟩
      · exact ⟨0, fun z => absurd z h⟩
    obtain ⟨g, hg⟩ := Classical.axiomOfChoice ex
    have at_ : ∀ x ∈ vs, ∃ d, ds[g x]? = some d ∧ Dq K F x d := fun x hx => by
      have h1 := hg x hx
      have hlt : g x < ds.length := by
        rw [← hds.len]
        exact (List.getElem?_eq_some_iff.mp h1).1
      obtain ⟨v, h2, h3⟩ := hds.get (List.getElem?_eq_getElem hlt)
      rw [h1] at h2
      cases h2
      exact ⟨_, List.getElem?_eq_getElem hlt, h3⟩
    refine ⟨fun x => hd2 (ds.getD (g x) .none), fun x hx => ?_, fun x hx y hy exy => ?_⟩
    · obtain ⟨d, h1, h2⟩ := at_ x hx
      have e1 : ds.getD (g x) .none = d := by rw [List.getD_eq_getElem?_getD, h1]; rfl
      obtain ⟨x1, y1, r1, e2⟩ := hd d (List.mem_of_getElem? h1)
      show ∃ t r, x = V.ref t ∧ SqT K F t (.str (hd2 (ds.getD (g x) .none)).1 :: .str (hd2 (ds.getD (g x) .none)).2 :: r)
      rw [e1]
      subst e2
      cases h2 with
      | tup s1 b1 =>
        cases b1 with
        | cons c1 b1 =>
          cases b1 with
          | cons f1 b1 =>
            cases c1; cases f1
            exact ⟨_, _, rfl, s1⟩
    · obtain ⟨d, h1, h2⟩ := at_ x hx
      obtain ⟨d', h1', h2'⟩ := at_ y hy
      have e1 : ds.getD (g x) .none = d := by rw [List.getD_eq_getElem?_getD, h1]; rfl
      have e1' : ds.getD (g y) .none = d' := by rw [List.getD_eq_getElem?_getD, h1']; rfl
      have e2 : hd2 d = hd2 d' := by rw [← e1, ← e1']; exact exy
      have m1 : (ds.map hd2)[g x]? = some (hd2 d) := by rw [List.getElem?_map, h1]; rfl
      have m2 : (ds.map hd2)[g y]? = some (hd2 d) := by rw [List.getElem?_map, h1', e2]; rfl
      have eg : g x = g y := (List.getElem?_inj (List.getElem?_eq_some_iff.mp m1).1 hn).mp (m1.trans m2.symm)
      have z1 := hg x hx
      have z2 := hg y hy
      rw [eg, z2] at z1
      exact (Option.some.inj z1).symm
  obtain ⟨kf, k1, k2⟩ := key
  refine ⟨a, vs, kf, rfl, SqL.of (e _ _ ha), fun x hx => ?_, k2, fun ys p hp hpn => ?_⟩
  · obtain ⟨t, r, h1, h2⟩ := k1 x hx
    exact ⟨t, r, h1, e.t h2⟩
  · have g := Grow.add (o := .lst ys) e hpn
    obtain ⟨es, h1, h2⟩ := dq_perm hp hds
    exact k _ (dL K es) _ _ g (Dq.lst upd_same (DqAll.ex g.f _ _ h2)) (q es h1)
end Wp
/-! sorted(xs, key=f), f: the first item, a text. -/
namespace Wp
open PySem PySem.Spec PyProof.Rows L2
section
variable {P : Program} {w : World} {K : PySem.W.Frag}
/-- def f(a0): return a0[0] -/
theorem key_call {x qual : Str} {st : Stmt} {f : Addr} {fd : FuncData} {a0 : Str} {N : List Str} {k0 : Nat} {p1 p2 p3 p4 : Pos} {A : Around} {s : Shared} {a : Addr} {items : Array Value} {y : Str} {t : Tok}
    (F : Fun K x qual st f fd) (S : FnScope N [a0] (defScope st)) (hbd : defBody st = [.Return (some (.Subscript (.Name a0 p1) (.Constant (.int 0) k0 p2) p3)) p4])
    (hb : ∀ (kV doc pm : Value) (an : Option Addr) (cdv ct : Value) (us : List Value), us.length = [a0].length → bindArgs (PySem.W.fnOf x qual (defArgs st) (defBody st) (defScope st) .none kV doc pm an cdv ct) ⟨us, []⟩ = pure ([a0].zip us))
    (h0 : (defScope st).names.lookup a0 = some .local) (d0 : (a0 == ("__debug__" : Str)) = false)
    (KX : K.In s.heap) (lim : s.heap.NoLimit) (hA : A.depth < recursionLimit) (ht : IsTup s.heap a items) (hx : items[0]? = some (.str y t)) :
    wpAny (model P w) A (call (.ref f) [.ref a]) (PySem.W.KeyPure (.str y) s) (fun _ _ => False) s := by
  obtain ⟨oc, od, kV, doc, pm, an, cdv, ct, osl, rfl, lk, hcd⟩ := F.ex
  refine wpAny_call ?_
  have hkind : ∀ v ∈ [a0].zip [Value.ref a], (defScope st).names.lookup v.1 = some .local ∨ ((defScope st).names.lookup v.1 = some .cell ∧ ((cellsFrom (s.heap.objs.size + 1) (defScope st).names []).lookup v.1).isSome = true) := fun ⟨n, v⟩ hy => by
    rcases S.par n (List.of_mem_zip hy).1 with q | q
    · exact .inl q
    · exact .inr ⟨q, PySem.W.cellsFrom_some _ _ _ (.inl q)⟩
  refine codeAny_call_function hA (KX _ _ lk) rfl S.co S.gen rfl (PySem.W.codeRec_of KX hcd) (BindsTo.of_eq (hb kV doc pm an cdv ct [.ref a] rfl) _ _ _ _ ?_)
  refine wpAny_newFunctionEnv_cells S.kind hkind fun env he s1 xx => ?_
  subst he
  refine ⟨lim.keeps xx.toInCall.keep, codeAny_func ?_⟩
  rw [hbd]
  have hn := xx.toInCall.ns
  have nd : [a0].Nodup := by simp
  have m0 := bindL_get (kindOf := (envOfC qual (defScope st) s.heap.objs.size f cdv).kindOf) (x := a0) (v := Value.ref a) (P := [a0]) (vs := [.ref a]) (i := 0) (m := fun _ => none) nd rfl rfl h0
  refine wpAny_execs_cons (wpAny_Return_some (wpAny_Subscript_Constant_late (wpAny_Name (wpAny_loadName_local S.kind h0 hn m0 ?_) d0)))
  refine wpAny_Constant_int ?_
  have ht1 : IsTup s1.heap a items := ht.keeps xx.toInCall.keep
  refine ⟨"tuple", _, PyProof.Rows.slot_tuple_getitem.lookup, ht1.typeIs, ?_⟩
  have hpos : 0 < items.size := (Array.getElem?_eq_some_iff.mp hx).1
  refine PyProof.Rows.getItem_tuple (j := 0) (x := .str y t) ht1 (by decide) (by decide) ?_ hx ?_
  · exact PySem.seqIndex_of (k := 0) (by decide) (by omega)
  · obtain ⟨h1, tk, e, hk⟩ := xx.done
    subst e
    exact ⟨h1, _, rfl, hk, Reads.str y t⟩
end
/-- by the first item, a text -/
def rSortK0 (K : PySem.W.Frag) (f : Addr) : List V → List V → Hp → VK → Prop := fun vs zs H Q => ∃ (a : Addr) (xs : List V), vs = [V.ref a] ∧ zs = [V.ref f] ∧ SqL K H a xs ∧ (∀ x ∈ xs, ∃ t y r, x = V.ref t ∧ SqT K H t (.str y :: r)) ∧
  ∀ ys p, ys.Perm xs → H p = none → Q (.ref p) (upd H p (.lst ys))
section
variable {X : Cx}
theorem each_same {vs out : List Value} (h : PySem.W.EachIs (fun v u : Value => v = u) out vs) : out = vs := by
  induction h with
  | nil => rfl
  | cons a b ih => rw [a, ih]
theorem each_refl {R : Value → Value → Prop} : ∀ {vs : List Value}, (∀ v ∈ vs, R v v) → PySem.W.EachIs R vs vs
  | [], _ => .nil
  | v :: vs, h => .cons (h v List.mem_cons_self) (each_refl fun u hu => h u (List.mem_cons_of_mem _ hu))
theorem cr_sortK0 {x qual : Str} {st : Stmt} {f : Addr} {fd : FuncData} {a0 : Str} {N : List Str} {k0 : Nat} {p1 p2 p3 p4 : Pos}
    (F : Fun X.K x qual st f fd) (S : FnScope N [a0] (defScope st)) (hbd : defBody st = [.Return (some (.Subscript (.Name a0 p1) (.Constant (.int 0) k0 p2) p3)) p4])
    (hb : ∀ (kV doc pm : Value) (an : Option Addr) (cdv ct : Value) (us : List Value), us.length = [a0].length → bindArgs (PySem.W.fnOf x qual (defArgs st) (defBody st) (defScope st) .none kV doc pm an cdv ct) ⟨us, []⟩ = pure ([a0].zip us))
    (h0 : (defScope st).names.lookup a0 = some .local) (d0 : (a0 == ("__debug__" : Str)) = false) (hr : Room 1 X.A) : CallRK X (.builtin "sorted") [Str.ofString "key"] (rSortK0 X.K f) := by
  intro pins s σ H vs zs us ws Q I r rz h
  obtain ⟨a, xs, rfl, rfl, hs, hx, q⟩ := h
  obtain rfl := Vals.ref1 r
  obtain rfl := Vals.ref1 rz
  obtain ⟨its, rv, hl, hz⟩ := I.list hs
  obtain ⟨e1, e2⟩ := refs_back rv fun x m => by
    obtain ⟨t, _, _, e, _⟩ := hx x m
    exact ⟨t, e⟩
  have inx : ∀ t, Value.ref t ∈ its → V.ref t ∈ xs := fun t hv => by rw [e1]; exact List.mem_map.mpr ⟨_, hv, rfl⟩
  have item : ∀ v ∈ its, ∃ t items y tk, v = .ref t ∧ IsTup s.heap t items ∧ items[0]? = some (.str y tk) := fun v hv => by
    obtain ⟨t, rfl⟩ := e2 v hv
    obtain ⟨t', y, rr, e, ht⟩ := hx _ (inx t hv)
    cases e
    obtain ⟨its2, r2, ⟨o, ho, hc, n, hd⟩, _⟩ := I.tuple ht
    cases r2 with
    | cons ra r3 =>
      obtain ⟨t1, rfl⟩ := ra
      exact ⟨t, _, y, t1, rfl, ⟨o, ho, hc, n, hd⟩, rfl⟩
  have ex : ∀ v : Value, ∃ y : Str, v ∈ its → ∃ t items tk, v = .ref t ∧ IsTup s.heap t items ∧ items[0]? = some (.str y tk) := fun v => by
    by_cases hv : v ∈ its
    · obtain ⟨t, items, y, tk, z⟩ := item v hv
      exact ⟨y, fun _ => ⟨t, items, tk, z⟩⟩
    · exact ⟨⟨#[]⟩, fun z => absurd z hv⟩
  obtain ⟨kf, hkf⟩ := Classical.axiomOfChoice ex
  have hzl : its.length ≤ sizeLine := by rw [← rv.length]; exact hz
  refine PySem.W.sorted_key_data (b := false) (β := Value) (bs := its) (R := fun v u => v = u) (fun v => PyData.str (kf v)) hl.isList (each_refl fun _ _ => rfl) (PySem.W.AllAlike.of fun _ _ => by simp [PySem.W.alike]) (PySem.W.Sortable.others fun _ => ⟨(fun z => nomatch z), (fun _ z => nomatch z)⟩) hzl (fun x _ => ?_) (ksk_s1 _ _) (fun _ => ksk_l1 _ _) (fun _ => ksk_t1 _ _) (fun v u e hu h tk kp => ?_) fun out c h' tk kp hn hd hlen eo => ?_
  · have := hr.un
    simp only [PyData.depth]
    omega
  · subst e
    obtain ⟨t, items, tk', rfl, hT, h0'⟩ := hkf v hu
    exact key_call (s := { s with heap := h, toks := tk }) F S hbd hb h0 d0 (I.kIn.keeps kp) (I.nolimit.keeps kp) (by have := hr.dp; show X.A.depth < _; omega) (hT.keeps kp) h0'
  · have e := each_same eo
    have hp : out.Perm its := by
      rw [e]
      exact List.mergeSort_perm _ _
    have h3 : ∀ u ∈ out, ∃ a, u = Value.ref a := fun u hu => e2 u (hp.mem_iff.mp hu)
    have hb2 : (out.map backV).Perm xs := by
      rw [e1]
      exact hp.map backV
    refine ⟨.ref _, upd H (s.heap.objs.size + 1) (.lst (out.map backV)), I.laid (t' := tk) kp (Nat.le_succ _) ⟨?_, out, c, vals_back h3, hd⟩, rfl, q _ _ hb2 (I.hok.fresh (Nat.le_succ _))⟩
    rw [hb2.length_eq]
    exact hz
end
/-- a value told by its address -/
def refM (a : Addr) : MP := ⟨fun _ v => v = .ref a, fun _ h => h⟩
section
variable {K : PySem.W.Frag} {A : AS} {P : MP → Prop}
theorem evp_ref {a : Addr} (q : P (refM a)) : EvP K (tC (.ref a)) A P := fun F0 H0 σ F H w Q k => k _ _ F H (Grow.refl w.grow.h) rfl q
/-- a tuple that begins with a text -/
def IsHd1 (d : PyData) : Prop := ∃ x r, d = .tuple (.str x :: r)
theorem evp_sortK0 {f : Addr} {t tk : TA} (h : EvA K t A fun ms => EvA K tk A fun ns => ∃ ds, ms = [dL K ds] ∧ ns = [refM f] ∧ (∀ d ∈ ds, IsHd1 d) ∧ ∀ es : List PyData, es.Perm ds → P (dL K es)) : EvP K (tCKw (rSortK0 K f) t tk) A P := fun F0 H0 σ F H w Q k => by
  refine h F0 H0 σ F H w _ fun xs ms F1 H1 g1 p1 h1 => ?_
  refine h1 F0 H0 σ F1 H1 (w.go g1) _ fun ys ns F2 H2 g2 p2 ⟨ds, e1, e2, hd, q⟩ => ?_
  subst e1; subst e2
  obtain ⟨x, rfl, px⟩ := mps1 (MPs.grow g2.f p1)
  obtain ⟨y, rfl, py⟩ := mps1 p2
  obtain ⟨a, vs, rfl, ha, hds⟩ := p_lst px
  have py : y = .ref f := py
  subst py
  refine ⟨a, vs, rfl, rfl, SqL.of (g2.h _ _ ha), fun x hx => ?_, fun ys p hp hpn => ?_⟩
  · obtain ⟨i, hi⟩ := List.mem_iff_getElem?.mp hx
    have hlt : i < ds.length := by
      rw [← hds.len]
      exact (List.getElem?_eq_some_iff.mp hi).1
    obtain ⟨v, h2, h3⟩ := hds.get (List.getElem?_eq_getElem hlt)
    rw [hi] at h2
    cases h2
    obtain ⟨z, r, e⟩ := hd ds[i] (List.getElem_mem hlt)
    rw [e] at h3
    cases h3 with
    | tup s1 b1 =>
      cases b1 with
      | cons c1 b1 =>
        cases c1
        exact ⟨_, _, _, rfl, g2.h.t s1⟩
  · have g := Grow.add (o := .lst ys) g2.h hpn
    obtain ⟨es, h1, h2⟩ := dq_perm hp hds
    exact k _ (dL K es) _ _ (g1.trans (g2.trans g)) (Dq.lst upd_same (DqAll.ex g.f _ _ h2)) (q es h1)
end
end Wp
/-! enumerate over a tuple. -/
namespace Wp
open PySem PySem.Spec PyProof.Rows L2
theorem meets_enum1 {v : Value} {o : Obj} {H : Heap → Prop} (B : Begins v o H) :
    Meets (Builtin.«enumerate.__new__» ⟨[.type "enumerate", v], []⟩) (fun _ R s => H s.heap ∧
      R (.ok (.ret (.ref (s.heap.push o).objs.size))) { s with heap := (s.heap.push o).push { cls := .type "enumerate", data := .fields #[.none, .bool false, .ref s.heap.objs.size, rawInt 0, .none, .none] } }) :=
  .of_wp fun prog w A R s h => by
    obtain ⟨hp, g, d, tk, os⟩ := s; obtain ⟨h1, h⟩ := h
    have hsub := sub_enumerate
    have q1 : ∀ {A' : Around} {E : Value → Shared → Prop} {Q : Value → Shared → Prop}, Q (.ref hp.objs.size) ⟨hp.push o, g, d, tk, os⟩ → wpAny (model prog w) A' (pyIter v) Q E ⟨hp, g, d, tk, os⟩ :=
      fun q => B.iter prog w _ _ ⟨hp, g, d, tk, os⟩ _ h1 q
    wp_walk using q1
    refine wpAny_stack_any fun st => wpAny_pure ?_
    split
    · rename_i c _ _ _ _ _
      cases (c == Value.type "enumerate")
      · wp_walk using q1
        exact ⟨_, rfl, h⟩
      · wp_walk using q1
        exact ⟨_, rfl, h⟩
    · wp_walk using q1
      exact ⟨_, rfl, h⟩
theorem enum_begins1 {prog : Program} {w : World} {A : Around} {E : Value → Shared → Prop} {s : Shared} {v : Value} {o : Obj} {H : Heap → Prop} {Q : Value → Shared → Prop} (B : Begins v o H) (h1 : H s.heap)
    (h : ∀ h', IsEnum h' (s.heap.objs.size + 1) s.heap.objs.size 0 .none → h'.get? s.heap.objs.size = some o → h'.objs.size = s.heap.objs.size + 2 →
      (∀ b o, s.heap.get? b = some o → h'.get? b = some o) → Q (.ref (s.heap.objs.size + 1)) { s with heap := h' }) :
    wpAny (model prog w) A (call (.type "enumerate") [v]) Q E s := by
  refine callType_new F.called_enumerate (by decide) (F.typeCall_enumerate_1 _) (F.newCall_enumerate_1 _) (fun obj => F.args_object_init_2 obj _) F.entry_enumerate_new
    (meets_enum1 B) ⟨h1, ?_⟩
  have hz : (s.heap.push o).objs.size = s.heap.objs.size + 1 := Heap.size_push ..
  show _ ∧ _
  rw [hz]
  have he : IsEnum ((s.heap.push o).push { cls := .type "enumerate", data := .fields #[.none, .bool false, .ref s.heap.objs.size, rawInt 0, .none, .none] }) (s.heap.objs.size + 1) s.heap.objs.size 0 .none := by
    have := Heap.get?_push_size (s.heap.push o) (o := { cls := .type "enumerate", data := .fields #[.none, .bool false, .ref s.heap.objs.size, rawInt 0, .none, .none] }) rfl
    rw [hz] at this; exact this
  refine ⟨⟨_, he, rfl⟩, h _ he (Heap.get?_push_of_some _ (Heap.get?_push_size _ B.free)) (by rw [Heap.size_push, hz]) fun b o x => Heap.get?_push_of_some _ (Heap.get?_push_of_some _ x)⟩
/-- the tuple at a, each item in a new pair -/
def IteT (K : PySem.W.Frag) (a : Addr) : It :=
  ⟨fun i H => ∃ (xs : List V) (x : V), SqT K H a xs ∧ xs[i]? = some x, fun i H v H' => ∃ T x, v = .ref T ∧ H T = none ∧ H' = upd H T (.tup [.int (i : Nat), x]) ∧ ∀ xs, SqT K H a xs → xs[i]? = some x, fun i H => ∃ xs : List V, SqT K H a xs ∧ xs.length ≤ i⟩
theorem turn_enumT {P : Program} {w : World} {K : PySem.W.Frag} {elts : List Expr} {kk : Nat} {tpos : Pos} (a e it : Addr) :
    Turn P w K (.Tuple elts kk tpos) (IteT K a) [e, it] e (fun i h => (∃ old, IsEnum h e it ((i : Nat) : Int) old) ∧ h.IsTupleIter it a i ∧ e ≠ it ∧ a ≠ it ∧ a ≠ e) where
  mem := by simp
  obj := fun i h st b hb => by
    obtain ⟨⟨old, he⟩, ⟨o, ho, hc, hd⟩, _⟩ := st
    have e' : b = e ∨ b = it := by simpa using hb
    rcases e' with z | z
    · rw [z]; exact ⟨_, he, fun v q => nomatch q⟩
    · rw [z]; exact ⟨o, ho, fun v q => by rw [hd] at q; cases q⟩
  keep := fun i h h' st k => let ⟨⟨old, he⟩, hi, hne⟩ := st; ⟨⟨old, k e (by simp) _ he⟩, hi.at fun o q => k it (by simp) o q, hne⟩
  item := by
    intro X hP hw hK hc i pins s σ H E I hf st hg
    subst hP hw hK
    obtain ⟨⟨old, he⟩, hit, hne, nai, nae⟩ := st
    obtain ⟨xs, x, hq, hx⟩ := hg
    obtain ⟨its, rv, p, hz⟩ := I.tuple hq
    obtain ⟨u, hu, ru⟩ := rv.get hx
    have hel : e < s.heap.objs.size := Heap.lt_size he
    have hil : it < s.heap.objs.size := by obtain ⟨_, q, _⟩ := hit; exact Heap.lt_size q
    have D := Draws.tuple (prog := X.prog) (w := X.w) (A := X.A.in1) (I.ok.hd hc) it a nai its.toArray
    have hlt : i < its.toArray.size := by
      have := (List.getElem?_eq_some_iff.mp hu).1
      simpa using this
    refine wpAny_pyNext_enum_itemC D he ⟨hit, p⟩ hlt hne (by simp [hne, Ne.symm nae]) fun y h' tk hP ho hit' hT hsz hk => ?_
    have ey : y = u := by
      have h1 : its.toArray[i]? = some u := by simpa using hu
      exact Option.some.inj (hP.symm.trans h1)
    subst ey
    refine ⟨_, rfl, wpAny_letOwnedTupleGo_enum (s := { s with heap := h', toks := tk + 1 }) ho fun h'' he' sb => ?_⟩
    have hT2 : h''.get? s.heap.objs.size = some { cls := .type "tuple", data := .seq #[.int i tk, y] } := (sb.2 _ (Nat.ne_of_gt hel)).trans hT
    have new : ObjOk X.prog X.w (upd H s.heap.objs.size (.tup [.int (i : Nat), x])) h'' s.heap.objs.size (.tup [.int (i : Nat), x]) :=
      ⟨by show 2 ≤ sizeLine; decide, [.int i tk, y], .cons ⟨_, rfl⟩ (.cons ru .nil), ⟨_, hT2, rfl, _, rfl⟩⟩
    have I1 : Inv X pins σ (upd H s.heap.objs.size (.tup [.int (i : Nat), x])) { s with heap := h'', toks := tk + 1 } :=
      I.turnedNew (ch := [e, it]) (fun b ob hb q => (sb.2 b (fun z => hb (by simp [z]))).trans (hk b ob (fun z => hb (by simp [z])) (fun z => hb (by simp [z])) q)) hf (Nat.le_refl _) new
    refine ⟨.ref s.heap.objs.size, _, I1, rfl, ⟨_, x, rfl, I.hok.fresh (Nat.le_refl _), rfl, fun ys hy => by rw [I.tuple_inj hy hq]; exact hx⟩, ⟨⟨y, ?_⟩, hit'.1.at fun o q => (sb.2 it (Ne.symm hne)).trans q, hne, nai, nae⟩, fun b hb => ?_⟩
    · have e1 : ((i + 1 : Nat) : Int) = (i : Int) + 1 := by omega
      rw [e1]; exact he'
    · have hb' : b < s.heap.objs.size := by
        have e' : b = e ∨ b = it := by simpa using hb
        rcases e' with z | z
        · rw [z]; exact hel
        · rw [z]; exact hil
      rw [upd_ne (Nat.ne_of_lt hb')]
      exact (hf b hb).1
  done := by
    intro X hP hw hK hc i pins s σ H E I hf st hg
    subst hP hw hK
    obtain ⟨⟨old, he⟩, hit, hne, nai, nae⟩ := st
    obtain ⟨xs, hq, hx⟩ := hg
    obtain ⟨its, rv, p, hz⟩ := I.tuple hq
    obtain ⟨f0, f1, f2, f3, f4, f5⟩ := hf it (by simp)
    have hl := rv.length
    have hD : ∀ (E : Value → Shared → Prop) (Q : Value → Shared → Prop), (∀ h' e, Heap.ExtBut it s.heap h' → (∃ o, h'.get? e = some o ∧ o.cls = .type "StopIteration") → E (.ref e) { s with heap := h' }) → wpAny (model X.prog X.w) X.A.in1 (Builtin.SmallTypes.nextOf (.ref it)) Q E s := fun E Q hE =>
      wpAny_nextOf_tuple_end (I.ok.hd hc) hit p (by simp; omega) hE
    have hTy : s.TypeIs (.ref e) "enumerate" := ⟨_, he, rfl⟩
    unfold pyNext
    refine wpAny_bind (wpAny_attempt (wpAny_callSpecial?_slot (name := Str.ofString "__next__") hTy F.slot_enumerate_next
      (wpAny_call_entry F.slot_enumerate_next hTy F.entry_enumerate_next ?_ (F.args_enumerate_next_1 _))))
    show wpAny _ _ (field (.ref e) 2 >>= _) _ _ _
    refine wpAny_bind (wpAny_field he rfl (x := .ref it) rfl ?_)
    refine wpAny_bind (hD _ _ fun h' e' hx he' => ?_)
    have hst := he'
    obtain ⟨o, ho, hc'⟩ := he'
    have fin : Inv X pins σ H { s with heap := h' } := I.turned (t' := s.toks) (fun b o hb q => hx b o hb q) f0 f1 f3 f4 f5
    refine wpAny_bind (wpAny_isInstance (T := "StopIteration") (b := true) ⟨o, ho, hc'⟩ isSubtype_stop ?_)
    exact wpAny_pure ⟨rfl, fin⟩
  self := fun A i s Q E st h => let ⟨⟨_, he⟩, _⟩ := st; wpAny_pyIter_enum he h
def iEnumT (K : PySem.W.Frag) (ta : TA) : TI := fun σ H R => ta σ H fun vs H1 => ∃ a xs, vs = [.ref a] ∧ SqT K H1 a xs ∧ R (IteT K a) H1
theorem pi_enumT {X : Cx} {e : Expr} {ta : TA} {p pos tpos : Pos} {elts : List Expr} {kk : Nat} (hg : Gl X "enumerate") (hm : X.mg "enumerate" = none) (ha : PA X [e] ta) (hs : starEach [e] X.env = [(false, eval e X.env)] := by rfl) :
    PI X (.Tuple elts kk tpos) (.Call (.Name "enumerate" p) [e] [] pos) (iEnumT X.K ta) := by
  refine ⟨fun pins s σ H R I h => ?_⟩
  refine Call_ (ld_blt I hg hm boot_enumerate (PyProof.Rows.callWith_type1 (thn (ha.run pos pins s σ H _ I h) fun us s1 ⟨vs, H1, I1, r1, q1⟩ => ?_) hs rfl))
  obtain ⟨a, xs, ex, hq, q⟩ := q1
  subst ex
  cases r1 with
  | cons r rr =>
    cases rr
    cases r
    obtain ⟨its, rv, p', hz⟩ := I1.tuple hq
    refine enum_begins1 (begins_tuple a its.toArray) p' fun h' he hit hsz hk => wpAny_pyIter_enum he ?_
    have I2 : Inv X pins σ H1 { s1 with heap := h' } := I1.kept (t' := s1.toks) hk
    have hal : a < s1.heap.objs.size := by
      obtain ⟨_, q, _⟩ := p'
      exact Heap.lt_size q
    refine ⟨s1.heap.objs.size + 1, [s1.heap.objs.size + 1, s1.heap.objs.size], _, _, H1, rfl, I2, turn_enumT a (s1.heap.objs.size + 1) s1.heap.objs.size, ⟨⟨.none, he⟩, ⟨_, hit, rfl, rfl⟩, Nat.succ_ne_self _, Nat.ne_of_lt hal, Nat.ne_of_lt (Nat.lt_succ_of_lt hal)⟩, fun b hb => ?_, q⟩
    have e' : b = s1.heap.objs.size + 1 ∨ b = s1.heap.objs.size := by simpa using hb
    have hle : s1.heap.objs.size ≤ b := by
      rcases e' with z | z
      · rw [z]; exact Nat.le_add_right _ _
      · rw [z]; exact Nat.le_refl _
    exact I1.fpOk hle (I1.hok.fresh hle)
theorem evi_enumT {K : PySem.W.Frag} {A : AS} {ta : TA} {P : List MP → Prop} (h : EvA K ta A fun ms => ∃ ds : List PyData, ms = [dT K ds] ∧ P (ds.zipIdx.map fun p => dT K [.int (p.2 : Nat), p.1])) : EvI K (iEnumT K ta) A P := fun F0 H0 σ F H w R k => by
  refine h F0 H0 σ F H w _ fun xs ms F1 H1 g1 p1 ⟨ds, e, q⟩ => ?_
  subst e
  obtain ⟨x, rfl, px⟩ := mps1 p1
  obtain ⟨a, xs, rfl, ha, hd⟩ := p_tup px
  refine ⟨a, xs, rfl, g1.h.t ha, k _ _ F1 H1 g1 (fun F2 H2 e1 e2 i => ⟨fun e => ⟨xs, (e1.trans e2).t ha, ?_⟩, fun m hm => ?_⟩) q⟩
  · rw [e, List.length_map, List.length_zipIdx, hd.len]
    exact Nat.le_refl _
  · rw [List.getElem?_map] at hm
    cases z : ds.zipIdx[i]? with
    | none => rw [z] at hm; cases hm
    | some p =>
      rw [z] at hm
      have e' : dT K [.int (p.2 : Nat), p.1] = m := Option.some.inj hm
      rw [List.getElem?_zipIdx] at z
      cases z2 : ds[i]? with
      | none => rw [z2] at z; cases z
      | some d =>
        rw [z2] at z
        have ep : p = (d, i) := by
          have := Option.some.inj z
          rw [← this, Nat.zero_add]
        subst ep
        obtain ⟨x, hx, hp⟩ := hd.get z2
        have hq : SqT K H2 a xs := (e1.trans e2).t ha
        refine ⟨⟨xs, x, hq, hx⟩, fun y H' ⟨T, x', ey, hT, eH, r⟩ => ?_⟩
        have ex : x' = x := Option.some.inj ((r xs hq).symm.trans hx)
        subst ex; subst ey; subst eH
        have g : Grow F2 H2 (upd F2 T (.tup [.int (i : Nat), x'])) (upd H2 T (.tup [.int (i : Nat), x'])) := Grow.add e2 hT
        refine ⟨_, g, e' ▸ ?_⟩
        exact Dq.tup (SqT.of upd_same) (.cons (Dq.int _) (.cons (Dq.ex (e1.trans g.f) _ _ hp) .nil))
end Wp
/-! More built-ins over data. -/
namespace Wp
open PySem PySem.Spec PyProof.Rows L2
/-! ### a op1 b op2 c op3 d, as a test -/
def tChain3 (r r' r2 : R2) (ta tb tc td : TE) : TT := fun σ H Q => ta σ H fun x H1 => tb σ H1 fun y H2 => r x y H2 fun z H3 => ∃ k, z = .bl k ∧
  (if k = true then tc σ H3 fun u H4 => r' y u H4 fun z2 H5 => ∃ k2, z2 = .bl k2 ∧ (if k2 = true then td σ H5 fun v H6 => r2 u v H6 fun z3 H7 => ∃ k3, z3 = .bl k3 ∧ Q k3 H7 else Q false H5) else Q false H3)
section
variable {X : Cx} {a b c d : Expr} {ta tb tc td : TE} {pos : Pos}
theorem pt_chain3 {op op' op2 : CmpOp} {r r' r2 : R2} (ho : OpR X (compareOp op) r) (ho' : OpR X (compareOp op') r') (ho2 : OpR X (compareOp op2) r2) (ha : PE X a ta) (hb : PE X b tb) (hc : PE X c tc) (hd : PE X d td)
    (hm : lastMarks [op, op', op2] [b, c, d] = false := by with_unfolding_all rfl) : PT X (.Compare a [op, op', op2] [b, c, d] pos) (tChain3 r r' r2 ta tb tc td) := by
  refine ⟨fun pins s σ H Q I h => ?_⟩
  refine isTrue_chain (thn (ha.run pins s σ H _ I h) fun v s1 ⟨x, H1, I1, r1, q1⟩ => test_link (thn (hb.run pins s1 σ H1 _ I1 q1) fun u s2 ⟨y, H2, I2, r2', q2⟩ =>
    thn (ho pins s2 σ H2 x y v u _ I2 r1 r2' q2) fun d' s3 ⟨z, H3, I3, r3, k, e, q3⟩ => ?_)) hm
  subst e
  cases r3
  refine wpAny_truthy_bool ?_
  cases k with
  | false => exact ite_ff ⟨H3, I3, q3⟩
  | true =>
    refine ite_tt (test_link (thn (hc.run pins s3 σ H3 _ I3 q3) fun w' s4 ⟨z', H4, I4, r4, q4⟩ => thn (ho' pins s4 σ H4 y z' u w' _ I4 r2' r4 q4) fun d' s5 ⟨z2, H5, I5, r5, k2, e2, q5⟩ => ?_))
    subst e2
    cases r5
    refine wpAny_truthy_bool ?_
    cases k2 with
    | false => exact ite_ff ⟨H5, I5, q5⟩
    | true =>
      refine ite_tt (test_last (thn (hd.run pins s5 σ H5 _ I5 q5) fun w2 s6 ⟨z3, H6, I6, r6, q6⟩ => thn (ho2 pins s6 σ H6 z' z3 w' w2 _ I6 r4 r6 q6) fun d2 s7 ⟨z4, H7, I7, r7, k3, e3, q7⟩ => ?_))
      subst e3
      cases r7
      exact wpAny_truthy_bool ⟨H7, I7, q7⟩
end
section
variable {K : PySem.W.Frag} {A : AS} {ta tb tc td te : TE} {B : Bool → Prop} {P : MP → Prop}
theorem evt_chain3 {i j k l : Int} {f g h : Int → Int → Bool} (ha : EvP K ta A fun m => m = dI K i) (hb : EvP K tb A fun m => m = dI K j) (hc : EvP K tc A fun m => m = dI K k) (hd : EvP K td A fun m => m = dI K l) (q : B (f i j && g j k && h k l)) :
    EvT K (tChain3 (rI0 fun i j => .bl (f i j)) (rI0 fun i j => .bl (g i j)) (rI0 fun i j => .bl (h i j)) ta tb tc td) A B := fun F0 H0 σ F H w Q kk => by
  refine ha F0 H0 σ F H w _ fun x m F1 H1 g1 p1 e1 => ?_
  subst e1
  refine hb F0 H0 σ F1 H1 (w.go g1) _ fun y n F2 H2 g2 p2 e2 => ?_
  subst e2
  have g12 := g1.trans g2
  refine ⟨i, j, p_int p1, p_int p2, f i j, rfl, ?_⟩
  cases ef : f i j with
  | false =>
    rw [ef] at q
    exact kk false F2 H2 g12 q
  | true =>
    refine hc F0 H0 σ F2 H2 (w.go g12) _ fun z o F3 H3 g3 p3 e3 => ?_
    subst e3
    refine ⟨j, k, p_int p2, p_int p3, g j k, rfl, ?_⟩
    cases eg : g j k with
    | false =>
      rw [ef, eg] at q
      exact kk false F3 H3 (g12.trans g3) q
    | true =>
      refine hd F0 H0 σ F3 H3 (w.go (g12.trans g3)) _ fun u o F4 H4 g4 p4 e4 => ?_
      subst e4
      refine ⟨k, l, p_int p3, p_int p4, h k l, rfl, ?_⟩
      rw [ef, eg] at q
      exact kk _ F4 H4 ((g12.trans g3).trans g4) q
/-- weaker -/
theorem evp_sub (h : EvP K te A fun m => ∃ n : MP, (∀ F v, m.P F v → n.P F v) ∧ P n) : EvP K te A P := fun F0 H0 σ F H w Q k => h F0 H0 σ F H w Q fun v m F' H' g p ⟨n, q, r⟩ => k v n F' H' g (q F' v p) r
/-! ### list.count of texts -/
def rCountS (K : PySem.W.Frag) : V → List V → Hp → VK → Prop := fun x xs H Q => ∃ a, ∃ ys : List Str, ∃ z, x = .ref a ∧ xs = [.str z] ∧ SqL K H a (ys.map V.str) ∧ Q (.int ((ys.count z : Nat) : Int)) H
theorem countIn_count (z : Str) : ∀ ys : List Str, countIn (.str z) (ys.map PyData.str) = ((ys.count z : Nat) : Int) := by
  intro ys
  rw [countIn_strs_sum]
  induction ys with
  | nil => rfl
  | cons y ys ih =>
    rw [List.map_cons, List.sum_cons, ih, List.count_cons]
    split <;> omega
theorem mt_countS {X : Cx} : MtR X "list.count" (rCountS X.K) := by
  intro pins s σ H x xs v us Q I rx rs h
  obtain ⟨a, ys, z, rfl, rfl, hq, q⟩ := h
  cases rx
  obtain ⟨u, rfl, t, rfl⟩ := vals1 rs
  obtain ⟨its, r, pl, hz⟩ := I.list hq
  refine count_list_strs (vs := its) pl.isList (strs_of_vals r) ?_
  rw [countIn_count]
  exact ⟨.int _, H, I.tok _, ⟨_, rfl⟩, q⟩
theorem mok_countS {z : Str} {ys : List Str} (q : P (dI K (ys.count z : Nat))) : MOk (rCountS K) (dL K (ys.map .str)) [dS K z] P := fun F H x xs e px pxs Q k => by
  obtain ⟨a, vs, rfl, ha, hd⟩ := p_lst px
  obtain ⟨y, rfl, py⟩ := mps1 pxs
  rw [p_str py]
  rw [dq_strs hd] at ha
  exact ⟨a, ys, z, rfl, rfl, SqL.of (e _ _ ha), same_world e (i_int _) q k⟩
/-! ### slices of texts, join, powers -/
theorem sok_str {z : Str} {lo hi : Option Int} (hz : z.length ≤ 100000) (q : P (dS K (cutS z lo hi))) : SOk rSlS (dS K z) lo hi P := fun F H x e p1 Q k => by
  rw [p_str p1]
  exact ⟨z, rfl, Nat.le_trans hz (by decide), same_world e (i_str _) q k⟩
def rJoin1 (K : PySem.W.Frag) : V → List V → Hp → VK → Prop := fun x xs H Q => ∃ a p, ∃ ys : List Str, x = .str a ∧ xs = [.ref p] ∧ (SqL K H p (ys.map V.str) ∨ SqT K H p (ys.map V.str)) ∧
    (ys.map (·.length)).sum + ys.length * a.length ≤ 16777216 ∧ Q (.str (Txt.join a ys)) H
theorem mt_join1 {X : Cx} : MtR X "str.join" (rJoin1 X.K) := mt_join
theorem mok_join {a : Str} {ys : List Str} (hz : (ys.map (·.length)).sum + ys.length * a.length ≤ 16777216) (q : P (dS K (Txt.join a ys))) : MOk (rJoin1 K) (dS K a) [dL K (ys.map .str)] P := fun F H x xs e px pxs Q k => by
  obtain ⟨y, rfl, py⟩ := mps1 pxs
  obtain ⟨p, vs, rfl, ha, hd⟩ := p_lst py
  rw [dq_strs hd] at ha
  rw [p_str px]
  exact ⟨a, p, ys, rfl, rfl, .inl (SqL.of (e _ _ ha)), hz, same_world e (i_str _) q k⟩
/-! ### lists of anything -/
def lsM (ms : List MP) : MP := ⟨fun F v => ∃ a xs, v = .ref a ∧ F a = some (.lst xs) ∧ MPs F xs ms, fun e ⟨a, xs, h1, h2, h3⟩ => ⟨a, xs, h1, e _ _ h2, MPs.grow e h3⟩⟩
theorem evp_lsM {ta : TA} (h : EvA K ta A fun ms => ms.length ≤ 100000 ∧ P (lsM ms)) : EvP K (tLst ta) A P := fun F0 H0 σ F H w Q k => by
  refine h F0 H0 σ F H w _ fun xs ms F1 H1 g1 p1 ⟨hl, q⟩ => ?_
  refine ⟨?_, fun p hp => ?_⟩
  · rw [mps_len p1]
    exact Nat.le_trans hl (by decide)
  · have g2 : Grow F1 H1 (upd F1 p (.lst xs)) (upd H1 p (.lst xs)) := Grow.add g1.h hp
    exact k _ (lsM ms) _ _ (g1.trans g2) ⟨p, xs, rfl, upd_same, MPs.grow g2.f p1⟩ q
theorem mps_get {F : Hp} {vs : List V} {ms : List MP} {i : Nat} {m : MP} (h : MPs F vs ms) (e : ms[i]? = some m) : ∃ v, vs[i]? = some v ∧ m.P F v := by
  induction h generalizing i with
  | nil => simp at e
  | cons a b ih =>
    cases i with
    | zero =>
      cases Option.some.inj e
      exact ⟨_, rfl, a⟩
    | succ i => exact ih e
theorem rok_ixM {ms : List MP} {i : Nat} {m : MP} (h : ms[i]? = some m) (q : P m) : ROk (rIxL K) (lsM ms) (dI K (i : Nat)) P := fun F H u v e p1 p2 Q k => by
  obtain ⟨a, vs, rfl, ha, hd⟩ := p1
  obtain ⟨x, hx, px⟩ := mps_get hd h
  rw [p_int p2]
  refine ⟨a, vs, (i : Int), x, rfl, rfl, SqL.of (e _ _ ha), ?_, same_world e (m := m) px q k⟩
  have hl := (List.getElem?_eq_some_iff.mp hx).1
  unfold atI ixN
  rw [if_pos (by omega : 0 ≤ (i : Int)), if_pos (by omega : (i : Int) < vs.length), Int.toNat_natCast]
  exact hx
/-! ### a tuple that is known to the letter -/
def tuX (K : PySem.W.Frag) (ds : List PyData) : MP := ⟨fun F v => ∃ a o xs, v = .ref a ∧ F a = some (.frz o (.tup xs)) ∧ o.dict = none ∧ DqAll K F xs ds, fun e ⟨a, o, xs, h1, h2, h3, h4⟩ => ⟨a, o, xs, h1, e _ _ h2, h3, DqAll.ex e _ _ h4⟩⟩
theorem tuX_t {ds : List PyData} {F : Hp} {v : V} (h : (tuX K ds).P F v) : (dT K ds).P F v := by
  obtain ⟨a, o, xs, rfl, ha, _, hd⟩ := h
  exact Dq.tup (.inl (.inr ⟨o, ha⟩)) hd
def rTupX (K : PySem.W.Frag) : List V → Hp → VK → Prop := fun xs H Q => ∃ p ys, xs = [.ref p] ∧ SqL K H p ys ∧ ∀ l o, H l = none → o.dict = none → Q (.ref l) (upd H l (.frz o (.tup ys)))
theorem call_tupX {X : Cx} : CallR X (.type "tuple") (rTupX X.K) := by
  intro pins s σ H xs us Q I r h
  obtain ⟨p, ys, rfl, hq, q⟩ := h
  obtain ⟨u, rfl, rx⟩ := vals1 r
  cases rx
  obtain ⟨its, r', pl, hz⟩ := I.list hq
  have hlen := r'.length
  refine call_tuple_list pl.isList (fun h' kp => ?_) (by simp only [List.size_toArray] <;> omega)
  have I1 : Inv X pins σ H { s with heap := h' } := I.kept (t' := s.toks) kp
  have e : (h'.push { cls := .type "tuple", data := .seq its.toArray }).get? h'.objs.size = some { cls := .type "tuple", data := .seq its.toArray } := Heap.get?_push_size _ rfl
  have I2 : Inv X pins σ (upd H h'.objs.size (.frz { cls := .type "tuple", data := .seq its.toArray } (.tup ys))) { s with heap := h'.push { cls := .type "tuple", data := .seq its.toArray } } :=
    I1.laid (t' := s.toks) (fun b o e => Heap.get?_push_of_some _ e) (Nat.le_refl _) ⟨e, show ObjOk X.prog X.w _ _ _ (.tup ys) from ⟨hz, its, r', IsTup.new _ _⟩⟩
  exact ⟨.ref h'.objs.size, _, I2, rfl, q _ _ (I1.hok.fresh (Nat.le_refl _)) rfl⟩
theorem cok_tupX {ds : List PyData} (q : P (tuX K ds)) : COk (rTupX K) [dL K ds] P := fun F H xs e p Q k => by
  obtain ⟨x, rfl, px⟩ := mps1 p
  obtain ⟨a, vs, rfl, ha, hd⟩ := p_lst px
  refine ⟨a, vs, rfl, SqL.of (e _ _ ha), fun l o hl ho => ?_⟩
  have g := Grow.add (o := .frz o (.tup vs)) e hl
  exact k _ (tuX K ds) _ _ g ⟨l, o, vs, rfl, upd_same, ho, DqAll.ex g.f _ _ hd⟩ q
/-- x.index(e) -/
def rTIx (K : PySem.W.Frag) : V → List V → Hp → VK → Prop := fun x xs H Q => ∃ p, ∃ ys : List Str, ∃ z j, x = .ref p ∧ xs = [.str z] ∧ SqT K H p (ys.map V.str) ∧ ys[j]? = some z ∧ (∀ m, m < j → ys[m]? ≠ some z) ∧ Q (.int (j : Nat)) H
theorem mt_tix {X : Cx} : MtR X "tuple.index" (rTIx X.K) := mt_tup_index
def tTX (r : V → List V → Hp → VK → Prop) (to : TE) (t : TA) : TE := fun σ H Q => to σ H fun x H1 => (∃ a o xs, x = .ref a ∧ H1 a = some (.frz o (.tup xs)) ∧ o.dict = none) ∧ t σ H1 fun xs H2 => r x xs H2 Q
end
section
variable {X : Cx} {o e : Expr} {es : List Expr} {to : TE} {t : TA} {name : Str} {apos cpos : Pos} {id : String} {r : V → List V → Hp → VK → Prop}
theorem pe_tx (pa : PlainAttrs "tuple") (slot : Slot "tuple" name id) (hty : typeOf (.builtin id) = pure (.type "method_descriptor")) (hm : MtR X id r) (ho : PE X o to) (ha : PA X (e :: es) t)
    (hbase : attributeBase o name X.env (eval o X.env) = eval o X.env := by rfl)
    (hfew : ((backTo cpos (starEach (e :: es) X.env)).all (fun x => !x.1) && (backToKw cpos (keywordEach [] X.env)).all (fun x => x.1.isSome)
      && decide ((e :: es).length + ([] : List Keyword).length + (if ([] : List Keyword).isEmpty then 0 else 1) < 30)) = true := by rfl)
    (hline : (apos.endLine == cpos.line) = true := by rfl) (hs : starEach (e :: es) X.env = (false, eval e X.env) :: starEach es X.env := by rfl) (hplain : (backTo cpos (starEach es X.env)).any (·.1) = false := by rfl) :
    PE X (.Call (.Attribute o name apos) (e :: es) [] cpos) (tTX r to t) := by
  refine ⟨fun pins s σ H Q I h => ?_⟩
  refine wpAny_Call_method_late hbase hfew hline rfl (thn (ho.run pins s σ H _ I h) fun v s1 ⟨x, H1, I1, r1, ⟨d, ob, xs, ex, ty, hdn⟩, q1⟩ => ?_)
  subst ex
  cases r1
  obtain ⟨hg, _⟩ := (I1.hok d _ ty : s1.heap.get? d = some ob ∧ ObjOk X.prog X.w H1 s1.heap d (.tup xs))
  obtain ⟨its, rr, ⟨o2, ho2, hc2, n2, hd2⟩, _⟩ := I1.tuple (show SqT X.K H1 d xs from .inl (.inr ⟨ob, ty⟩))
  have h1 : s1.TypeIs (.ref d) "tuple" := ⟨o2, ho2, hc2⟩
  have h2 : ∀ a, Value.ref d = .ref a → ∃ ob, s1.heap.get? a = some ob ∧ ob.dict = none := fun a e => by cases e; exact ⟨ob, hg, hdn⟩
  refine ⟨"tuple", id, pa, slot, hty, h1, h2, ?_⟩
  have hA := ha.run cpos pins s1 σ H1 _ I1 q1
  rw [hs] at hA ⊢
  refine Calls.callWith_builtin (by show (false || (backTo cpos (starEach es X.env)).any (·.1)) = false; rw [hplain] <;> rfl) (Calls.evalArgs_plain ?_)
  exact thn hA fun us s2 ⟨vs, H2, I2, r2, q2⟩ => hm pins s2 σ H2 (.ref d) vs _ us Q I2 rfl r2 q2
end
section
variable {K : PySem.W.Frag} {A : AS} {te : TE} {ta : TA} {P : MP → Prop}
theorem evp_tix {ys : List Str} {z : Str} {j : Nat} (hj : ys[j]? = some z) (hm : ∀ m, m < j → ys[m]? ≠ some z) (h : EvP K te A fun m => m = tuX K (ys.map .str) ∧ EvA K ta A fun ms => ms = [dS K z] ∧ P (dI K (j : Nat))) : EvP K (tTX (rTIx K) te ta) A P := fun F0 H0 σ F H w Q k => by
  refine h F0 H0 σ F H w _ fun x m F1 H1 g1 p1 ⟨e, h1⟩ => ?_
  subst e
  obtain ⟨a, o, xs, rfl, ha, hn, hd⟩ := p1
  refine ⟨⟨a, o, xs, rfl, g1.h _ _ ha, hn⟩, ?_⟩
  refine h1 F0 H0 σ F1 H1 (w.go g1) _ fun vs ms F2 H2 g2 p2 ⟨e, q⟩ => ?_
  subst e
  obtain ⟨y, rfl, py⟩ := mps1 p2
  rw [p_str py]
  refine ⟨a, ys, z, j, rfl, rfl, ?_, hj, hm, k _ _ F2 H2 (g1.trans g2) (i_int _) q⟩
  rw [← dq_strs hd]
  exact .inl (.inr ⟨o, (g1.trans g2).h _ _ (g2.f _ _ ha)⟩)
end
end Wp
/-! Dicts in the data layer. -/
namespace Wp
open PySem PySem.Spec PyProof.Rows L2
/-! ### {'text': None} -/
def tDisp1 (w : World) (z : Str) : TE := fun _ H Q => ∀ p t, H p = none → (p == sysModules) = false → Q (.ref p) (upd H p (.ext (nobj w p [(.text z, .str z t, .none)])))
theorem upd_twice {H : Hp} {p : Addr} {a b : HO} : upd (upd H p a) p b = upd H p b := by
  funext c
  by_cases e : c = p
  · rw [e, upd_same, upd_same]
  · rw [upd_ne e, upd_ne e, upd_ne e]
theorem pe_disp1 {X : Cx} {pos p1 p2 : Pos} {z : Str} {k1 k2 : Nat} : PE X (.Dict [some (.Constant (.str z) k1 p1)] [.Constant .none k2 p2] pos) (tDisp1 X.w z) := by
  refine ⟨fun pins s σ H Q I q => ?_⟩
  have base := (pe_disp (X := X) (pos := pos) (pps_cons (pe_str (x := z) (j := k1) (pos := p1)) (pe_non (j := k2) (pos := p2)) pps_nil) rfl rfl (by simp) (by simp)).run pins s σ H
    (fun v H' => ∃ p, v = .ref p ∧ H p = none ∧ H' = upd H p (.dK [(.inr z, .non)])) I
    (fun p hp => ⟨upd_same, [(.inr z, .non)], rfl, by simp, p, rfl, hp, upd_twice⟩)
  refine wpAny_mono base (fun v s1 ⟨x, H1, I1, rx, p, ex, hp, eH⟩ => ?_) fun _ _ z => z
  subst ex; subst eH
  cases rx
  obtain ⟨_, hsys, vs, r, o, es, ep, ho, hc, hd, hk, hps, _⟩ := dk_of I1.hok (kvs := [(.inr z, .non)]) upd_same
  cases r with
  | @cons a0 b a1 b0 r1 r2 =>
    obtain ⟨b1, b2⟩ := b
    obtain ⟨rb1, rb2⟩ := r1
    cases r2
    have rb1 : Sum.inr z = b1 := rb1
    have rb2 : b2 = Value.none := rb2
    subst rb1; subst rb2
    obtain ⟨e1, he⟩ : ∃ e1, es.toList = [e1] ∧ keyIs (.inr z) e1.key = true ∧ e1.val = Value.none := by
      generalize es.toList = l at hps
      cases hps with
      | cons a1 a2 a3 => cases a3; exact ⟨_, rfl, a1, a2⟩
    obtain ⟨he1, he2, he3⟩ := he
    obtain ⟨t, ek⟩ : ∃ t, e1.key = Value.str z t := by
      rcases keyIs_shape he2 with ⟨i, t, e, _⟩ | ⟨x, t, e, ek⟩
      · cases e
      · cases e
        exact ⟨t, ek⟩
    have hh : e1.hash = hashStr X.w z := by
      obtain ⟨k, k1, k2⟩ := hk e1 (by rw [← Array.mem_toList_iff, he1]; simp)
      rw [ek] at k1
      rcases keyIs_shape k1 with ⟨i, t', e, e'⟩ | ⟨x, t', e, e'⟩
      · cases e'
      · cases e'
        rw [k2, e]
        rfl
    have hl : es.toList = [((NestedKey.text z, Value.str z t, Value.none) : Ent)].map (entV X.w) := by
      rw [he1]
      show [e1] = [_]
      congr 1
      obtain ⟨a, b, c⟩ := e1
      have ek : b = _ := ek
      have he3 : c = _ := he3
      have hh : a = _ := hh
      subst ek; subst he3; subst hh
      rfl
    have D : DictV X.w s1.heap p [(.text z, .str z t, .none)] := by
      refine ⟨o, es, ep, ho, hc, hd, hl, fun x hx => ?_, by simp⟩
      rw [List.mem_singleton.mp hx]
      exact ⟨.text z t, by show (NestedKey.text z).depth ≤ 8; simp [NestedKey.depth], .inl ⟨z, t, rfl⟩⟩
    have I2 := I1.write (x := p) (e := p) (o := .ext (nobj X.w p [(.text z, .str z t, .none)])) (h' := s1.heap) (t' := s1.toks) (by rw [upd_same]; exact True.intro) (.inl rfl) (fun b u _ e => e) ⟨o, ho⟩ (nobj_ok D)
    rw [upd_twice] at I2
    exact ⟨.ref p, _, I2, rfl, q p t hp hsys⟩
section
variable {K : PySem.W.Frag} {w : World} {A : AS} {te to ti : TE} {ta : TA} {P : MP → Prop} {E : AE}
/-- what a dict tells at the start -/
def oneK (z : Str) (m : MP) : NK → Option MP := fun k => if k = .text z then some m else none
theorem dct_one {F : Hp} {p : Addr} {z : Str} {t : Tok} (h : (p == sysModules) = false) : DctAt K w F p (oneK z (dN K)) 1 [(.text z, .str z t, .none)] [(.text z, .non)] := by
  refine ⟨.cons ⟨rfl, ⟨.str z, ⟨t, rfl⟩, Dp.str z⟩, ⟨by show (NestedKey.text z).depth ≤ 8; simp [NestedKey.depth], .inl ⟨z, rfl⟩⟩, rfl⟩ .nil, by simp, h, Nat.le_refl _, fun k => ?_⟩
  unfold oneK
  by_cases e : k = .text z
  · rw [if_pos e, valV_pos e.symm]
    exact i_non
  · rw [if_neg e, valV_neg (fun z => e z.symm)]
    exact True.intro
theorem ast_asgD {i : Nat} {z : Str} (h : E.nx (A.set i (some (.own (.dct w (oneK z (dN K)) 1))))) : ASt K (tAsg (tDisp1 w z) (gName i)) A E := fun F0 H0 σ F H D wd ok p t hp hs =>
  ok.nx _ _ F _ (wd.fresh (ds := .dct w (oneK z (dN K)) 1) (vs := .ext (nobj w p [(.text z, .str z t, .none)])) hp ⟨_, _, rfl, dct_one hs⟩) h
/-! ### reading -/
theorem dct_nd {F H : Hp} {p : Addr} {f : NK → Option MP} {n : Nat} {xs : List Ent} {kvs : List (NK × V)} (hn : n ≤ 100000) (hp : H p = some (.ext (nobj w p xs))) (D : DctAt K w F p f n xs kvs) : ND w K F H p kvs :=
  ⟨xs, hp, D.ents, D.nd, D.sys, Nat.le_trans D.few hn⟩
theorem rok_nnin {f : NK → Option MP} {n : Nat} {k : NK} (hn : n ≤ 100000) (ok : Okk k) (q : P (dB K (!(f k).isSome))) : ROk (rNNotIn w K) (dat K k.data) (mdM K w f n) P := fun F H x y e p1 p2 Q kk => by
  obtain ⟨d, xs, kvs, rfl, hF, D⟩ := p2
  refine ⟨F, d, kvs, k, rfl, ⟨e, dct_nd hn (e _ _ hF) D, Dq.dp _ _ p1, ok⟩, ?_⟩
  have z := D.at' k
  have es : (valV kvs k).isSome = (f k).isSome := by
    cases a : valV kvs k <;> cases b : f k <;> rw [a, b] at z <;> first | rfl | exact z.elim
  rw [es]
  exact same_world e (i_bl _) q kk
theorem rok_nin {f : NK → Option MP} {n : Nat} {k : NK} (hn : n ≤ 100000) (ok : Okk k) (q : P (dB K (f k).isSome)) : ROk (rNIn w K) (dat K k.data) (mdM K w f n) P := fun F H x y e p1 p2 Q kk => by
  obtain ⟨d, xs, kvs, rfl, hF, D⟩ := p2
  refine ⟨F, d, kvs, k, rfl, ⟨e, dct_nd hn (e _ _ hF) D, Dq.dp _ _ p1, ok⟩, ?_⟩
  have z := D.at' k
  have es : (valV kvs k).isSome = (f k).isSome := by
    cases a : valV kvs k <;> cases b : f k <;> rw [a, b] at z <;> first | rfl | exact z.elim
  rw [es]
  exact same_world e (i_bl _) q kk
theorem rok_nget {f : NK → Option MP} {n : Nat} {k : NK} {m : MP} (hn : n ≤ 100000) (ok : Okk k) (hf : f k = some m) (q : P m) : ROk (rNGet w K) (mdM K w f n) (dat K k.data) P := fun F H x y e p1 p2 Q kk => by
  obtain ⟨d, xs, kvs, rfl, hF, D⟩ := p1
  have z := D.at' k
  rw [hf] at z
  cases a : valV kvs k with
  | none => rw [a] at z; exact z.elim
  | some v =>
    rw [a] at z
    exact ⟨F, d, kvs, k, v, rfl, ⟨e, dct_nd hn (e _ _ hF) D, Dq.dp _ _ p2, ok⟩, a, same_world e (m := m) z q kk⟩
/-- d.get(k, e) -/
theorem evp_nget {f : NK → Option MP} {n : Nat} {k : NK} {m : MP} (hn : n ≤ 100000) (ok : Okk k) (h : EvP K to A fun x => x = mdM K w f n ∧ EvA K ta A fun ms => ms = [dat K k.data, m] ∧ P ((f k).getD m)) : EvP K (tNM w (rNGetOr w K) to ta) A P := fun F0 H0 σ F H wd Q kk => by
  refine h F0 H0 σ F H wd _ fun x y F1 H1 g1 p1 ⟨e, h1⟩ => ?_
  subst e
  obtain ⟨d, xs, kvs, rfl, hF, D⟩ := p1
  refine ⟨⟨d, xs, rfl, g1.h _ _ hF⟩, ?_⟩
  refine h1 F0 H0 σ F1 H1 (wd.go g1) _ fun vs ms F2 H2 g2 p2 ⟨e, q⟩ => ?_
  subst e
  obtain ⟨u, v, rfl, pu, pv⟩ := mps2 p2
  refine ⟨F2, d, kvs, k, u, v, rfl, rfl, ⟨g2.h, dct_nd hn (g2.h _ _ (g2.f _ _ hF)) (D.ex g2.f), Dq.dp _ _ pu, ok⟩, ?_⟩
  have z := (D.ex g2.f).at' k
  cases a : valV kvs k with
  | none =>
    rw [a] at z
    cases b : f k with
    | some _ => rw [b] at z; exact z.elim
    | none =>
      rw [b] at q
      exact kk v m F2 H2 (g1.trans g2) pv q
  | some v' =>
    rw [a] at z
    cases b : f k with
    | none => rw [b] at z; exact z.elim
    | some m' =>
      rw [b] at z q
      exact kk v' m' F2 H2 (g1.trans g2) z q
/-! ### storing into one's own dict -/
def putM' (f : NK → Option MP) (k : NK) (m : MP) : NK → Option MP := fun j => if j = k then some m else f j
theorem valV_putK {kvs : List (NK × V)} {k j : NK} {y : V} : valV (putK kvs k y) j = if j = k then some y else valV kvs j := by
  exact valV_put kvs k j y
theorem dct_put {F : Hp} {p : Addr} {f : NK → Option MP} {n : Nat} {xs : List Ent} {kvs : List (NK × V)} {k : NK} {kv y : V} {key u : Value} {m : MP} (D : DctAt K w F p f n xs kvs) (ok : Okk k) (rk : RelV kv key) (dk : Dp K F kv k.data) (ry : RelV y u) (hm : m.P F y) :
    DctAt K w F p (putM' f k m) (n + 1) (storeV xs k key u) (putK kvs k y) := by
  refine ⟨ents_put D.ents ok rk dk ry, put_nodup D.nd, D.sys, ?_, fun j => ?_⟩
  · have := length_putK kvs k y
    have := D.few
    omega
  · rw [valV_putK]
    unfold putM'
    by_cases e : j = k
    · rw [if_pos e, if_pos e]
      exact hm
    · rw [if_neg e, if_neg e]
      exact D.at' j
end
end Wp
/-! The net while it is made: two dicts of one's own. -/
namespace Wp
open PySem PySem.Spec PyProof.Rows L2
section
variable {K : PySem.W.Frag} {w : World} {A : AS} {te to ti : TE} {ta : TA} {P : MP → Prop} {E : AE}
/-- d[e] = e' on a dict of one's own -/
theorem ast_dput {i : Nat} {f : NK → Option MP} {n : Nat} {k : NK} (ha : A[i]? = some (some (.own (.dct w f n)))) (hn : n < 100000) (ok : Okk k)
    (h : EvP K te A fun m => EvP K ti A fun kk => kk = dat K k.data ∧ E.nx (A.set i (some (.own (.dct w (putM' f k m) (n + 1)))))) : ASt K (tAsg te (gSub (tVar i) ti (rNSet w K))) A E := fun F0 H0 σ F H D wd ok' => by
  refine h F0 H0 σ F H wd _ fun x m F1 H1 g1 p1 h1 => ?_
  obtain ⟨v, s, p, o, rfl, h0, hF, hH, hd⟩ := (wd.go g1).sl i _ ha
  refine ⟨.ref p, s, ?_⟩
  refine h1 F0 H0 σ F1 H1 (wd.go g1) _ fun y kk F2 H2 g2 p2 ⟨e, q⟩ => ?_
  subst e
  have hd' := hd.ex g2.f
  unfold OwOk at hd'
  obtain ⟨xs, kvs, eo, DD⟩ := hd'
  subst eo
  obtain ⟨hF2, hH2⟩ := g2.own hF hH
  have few := DD.few
  refine ⟨F2, p, kvs, k, rfl, ⟨g2.h, dct_nd (Nat.le_of_lt hn) hH2 DD, Dq.dp _ _ p2, ok⟩, hF2, by omega, fun u nd => ?_⟩
  obtain ⟨xs', e1, e2, e3, e4, e5⟩ := nd
  rw [upd_same] at e1
  cases e1
  refine ok'.nx _ _ F2 _ ((wd.go (g1.trans g2)).write (es := .dct w (putM' f k m) (n + 1)) (vs := .ext (nobj w p xs')) ha s ?_) q
  refine ⟨xs', _, rfl, ⟨e2, e3, e4, ?_, fun j => ?_⟩⟩
  · have := length_putK kvs k x
    omega
  · rw [valV_putK]
    unfold putM'
    by_cases e : j = k
    · rw [if_pos e, if_pos e]
      exact m.mono g2.f p1
    · rw [if_neg e, if_neg e]
      exact DD.at' j
end
/-! ### the net -/
structure NetN where
  lf : NK → Option Int
  ah : NK → Option (List NK)
  n : Nat
def NetN.setL (N : NetN) (k : NK) (i : Int) : NetN := { N with lf := fun j => if j = k then some i else N.lf j, n := N.n + 1 }
def NetN.app (N : NetN) (k q : NK) : NetN := { N with ah := fun j => if j = k then some ((N.ah k).getD [] ++ [q]) else N.ah j, n := N.n + 1 }
def pr (p q : NK) : NK := .tup [p, q]
def NetN.add (N : NetN) (p q : NK) (i : Int) : NetN := (((N.setL (pr p q) i).setL (pr q p) (((N.setL (pr p q) i).lf (pr q p)).getD 0)).app p q).app q p
def datas (ks : List NK) : List PyData := ks.map NestedKey.data
/-- the lists of the second dict -/
def AhAt (K : PySem.W.Frag) (H0 F H : Hp) (n : Nat) : Option V → Option (List NK) → Prop
  | some v, some l => ∃ a vs, v = .ref a ∧ H a = some (.lst vs) ∧ F a = none ∧ H0 a = none ∧ DqAll K F vs (datas l) ∧ l.length ≤ n
  | none, none => True
  | _, _ => False
structure NetH (K : PySem.W.Frag) (w : World) (H0 F H : Hp) (dl da : Addr) (N : NetN) : Prop where
  ne : dl ≠ da
  fl : F dl = none
  fa : F da = none
  hl : H0 dl = none
  ha : H0 da = none
  left : ∃ lk : List (NK × V), ND w K F H dl lk ∧ lk.length ≤ N.n ∧ ∀ k, valV lk k = (N.lf k).map V.int
  ahead : ∃ ak : List (NK × V), ND w K F H da ak ∧ ak.length ≤ N.n ∧ (∀ k, AhAt K H0 F H N.n (valV ak k) (N.ah k)) ∧ ∀ k k' a, valV ak k = some (.ref a) → valV ak k' = some (.ref a) → k = k'
section
variable {K : PySem.W.Frag} {w : World} {H0 F H : Hp} {dl da : Addr} {N : NetN}
theorem ND.isE {d : Addr} {kvs : List (NK × V)} (h : ND w K F H d kvs) : ∃ f, H d = some (.ext f) := let ⟨_, a, _⟩ := h; ⟨_, a⟩
theorem NetH.grow {F' H' : Hp} (h : NetH K w H0 F H dl da N) (g : Grow F H F' H') : NetH K w H0 F' H' dl da N := by
  obtain ⟨lk, l1, l2, l3⟩ := h.left
  obtain ⟨ak, a1, a2, a3, a4⟩ := h.ahead
  obtain ⟨f1, e1⟩ := l1.isE
  obtain ⟨f2, e2⟩ := a1.isE
  refine ⟨h.ne, (g.own h.fl e1).1, (g.own h.fa e2).1, h.hl, h.ha, ⟨lk, (l1.ex g.hh).exF g.f, l2, l3⟩, ⟨ak, (a1.ex g.hh).exF g.f, a2, fun k => ?_, a4⟩⟩
  have z := a3 k
  cases e : valV ak k with
  | none =>
    rw [e] at z
    cases e' : N.ah k with
    | none => exact True.intro
    | some l => rw [e'] at z; exact z.elim
  | some v =>
    rw [e] at z
    cases e' : N.ah k with
    | none => rw [e'] at z; exact z.elim
    | some l =>
      rw [e'] at z
      obtain ⟨a, vs, rfl, b1, b2, b3, b4, b5⟩ := z
      obtain ⟨c1, c2⟩ := g.own b2 b1
      exact ⟨a, vs, rfl, c2, c1, b3, DqAll.ex g.f _ _ b4, b5⟩
theorem AhAt.up {n m : Nat} (h : n ≤ m) {H' : Hp} : ∀ {v : Option V} {l : Option (List NK)}, (∀ a, v = some (.ref a) → H' a = H a) → AhAt K H0 F H n v l → AhAt K H0 F H' m v l
  | some v, some l, he, ⟨a, vs, e, h1, h2, h3, h4, h5⟩ => ⟨a, vs, e, (he a (by rw [e])).trans h1, h2, h3, h4, Nat.le_trans h5 h⟩
  | none, none, _, _ => True.intro
  | some _, none, _, z => z.elim
  | none, some _, _, z => z.elim
/-- an entry of the first dict is written -/
theorem net_set {k : NK} {i : Int} {y : V} {Q : Hp → Prop} (h : NetH K w H0 F H dl da N) (e : Ex F H) (e0 : Ex H0 H) (ok : Okk k) (dk : Dp K F y k.data) (hn : N.n < 100000)
    (q : ∀ H', Ex F H' → Ex H0 H' → NetH K w H0 F H' dl da (N.setL k i) → Q H') : rNSet w K (.ref dl) y (.int i) H Q := by
  obtain ⟨lk, l1, l2, l3⟩ := h.left
  obtain ⟨ak, a1, a2, a3, a4⟩ := h.ahead
  obtain ⟨f1, e1⟩ := l1.isE
  refine ⟨F, dl, lk, k, rfl, ⟨e, l1, dk, ok⟩, h.fl, by omega, fun u nd => q _ (e.mut h.fl) (e0.mut h.hl) ?_⟩
  refine ⟨h.ne, h.fl, h.fa, h.hl, h.ha, ⟨_, nd, ?_, fun j => ?_⟩, ⟨ak, a1.at (upd_ne h.ne.symm), Nat.le_succ_of_le a2, fun j => ?_, a4⟩⟩
  · have := length_putK lk k (V.int i)
    show _ ≤ N.n + 1
    omega
  · rw [valV_putK]
    show _ = (if j = k then some i else N.lf j).map V.int
    by_cases z : j = k
    · rw [if_pos z, if_pos z]; rfl
    · rw [if_neg z, if_neg z, l3]
  · refine AhAt.up (Nat.le_succ _) (fun a ea => ?_) (a3 j)
    have z := a3 j
    rw [ea] at z
    cases e' : N.ah j with
    | none => rw [e'] at z; exact z.elim
    | some l =>
      rw [e'] at z
      obtain ⟨a', vs, ex, b1, _⟩ := z
      cases ex
      exact upd_ne fun zz => by rw [zz, e1] at b1; cases b1
theorem net_getOr {k : NK} {y : V} {Q : VK} (h : NetH K w H0 F H dl da N) (e : Ex F H) (ok : Okk k) (dk : Dp K F y k.data) (q : Q (.int ((N.lf k).getD 0)) H) : rNGetOr w K (.ref dl) [y, .int 0] H Q := by
  obtain ⟨lk, l1, l2, l3⟩ := h.left
  refine ⟨F, dl, lk, k, y, .int 0, rfl, rfl, ⟨e, l1, dk, ok⟩, ?_⟩
  rw [l3]
  cases z : N.lf k with
  | none => rw [z] at q; exact q
  | some i => rw [z] at q; exact q
/-- setdefault(k, []).append(u) -/
theorem net_app {k p : NK} {y u : V} {l : Addr} {Q : VK} (h : NetH K w H0 F H dl da N) (e : Ex F H) (e0 : Ex H0 H) (ok : Okk k) (dk : Dp K F y k.data) (du : Dq K F u p.data) (hn : N.n < 100000) (hl : H l = none)
    (q : ∀ H', Ex F H' → Ex H0 H' → NetH K w H0 F H' dl da (N.app k p) → Q .non H') :
    rNDflt w K (.ref da) [y, .ref l] (upd H l (.lst [])) fun x H1 => tyV K "list" x H1 ∧ rAppend x [u] H1 Q := by
  obtain ⟨lk, l1, l2, l3⟩ := h.left
  obtain ⟨ak, a1, a2, a3, a4⟩ := h.ahead
  obtain ⟨f1, e1⟩ := l1.isE
  obtain ⟨f2, e2⟩ := a1.isE
  have lF : F l = none := e.free hl
  have l0 : H0 l = none := e0.free hl
  have nl : dl ≠ l := fun z => by rw [z, hl] at e1; cases e1
  have na : da ≠ l := fun z => by rw [z, hl] at e2; cases e2
  have at_ : ∀ {j : NK} {a : Addr}, valV ak j = some (.ref a) → ∃ ls vs, N.ah j = some ls ∧ H a = some (.lst vs) ∧ F a = none ∧ H0 a = none ∧ DqAll K F vs (datas ls) ∧ ls.length ≤ N.n := fun {j a} ea => by
    have z := a3 j
    rw [ea] at z
    cases e' : N.ah j with
    | none => rw [e'] at z; exact z.elim
    | some ls =>
      rw [e'] at z
      obtain ⟨a', vs, ex, b⟩ := z
      cases ex
      exact ⟨ls, vs, rfl, b⟩
  have nel : ∀ {j : NK} {a : Addr}, valV ak j = some (.ref a) → a ≠ l ∧ a ≠ dl ∧ a ≠ da := fun {j a} ea => by
    obtain ⟨_, vs, _, b, _⟩ := at_ ea
    exact ⟨fun z => (by rw [z, hl] at b; cases b), fun z => (by rw [z, e1] at b; cases b), fun z => (by rw [z, e2] at b; cases b)⟩
  refine ⟨F, da, ak, k, y, .ref l, rfl, rfl, ⟨e.trans (Ex.new hl), a1.ex (Ex.new hl), dk, ok⟩, h.fa, by omega, fun v hv => ?_, fun hv u0 nd => ?_⟩
  · -- a list is there
    have z := a3 k
    rw [hv] at z
    cases e' : N.ah k with
    | none => rw [e'] at z; exact z.elim
    | some ls =>
      rw [e'] at z
      obtain ⟨a, vs, rfl, b1, b2, b3, b4, b5⟩ := z
      obtain ⟨n1, n2, n3⟩ := nel hv
      have ha : upd H l (.lst []) a = some (.lst vs) := by rw [upd_ne n1]; exact b1
      have hlen : vs.length = ls.length := by rw [b4.len]; unfold datas; rw [List.length_map]
      refine ⟨.inl ⟨rfl, vs, SqL.of ha⟩, a, vs, u, rfl, rfl, ha, ?_, ?_⟩
      · exact Nat.lt_of_lt_of_le (show vs.length < 100001 by omega) (by decide)
      · refine q _ ((e.trans (Ex.new hl)).mut b2) ((e0.trans (Ex.new hl)).mut b3) ⟨h.ne, h.fl, h.fa, h.hl, h.ha, ⟨lk, l1.at ?_, Nat.le_succ_of_le l2, l3⟩, ⟨ak, a1.at ?_, Nat.le_succ_of_le a2, fun j => ?_, a4⟩⟩
        · rw [upd_ne n2.symm, upd_ne nl]
        · rw [upd_ne n3.symm, upd_ne na]
        · show AhAt K H0 F _ (N.n + 1) _ (if j = k then some ((N.ah k).getD [] ++ [p]) else N.ah j)
          by_cases ej : j = k
          · rw [if_pos ej, ej, hv, e']
            refine ⟨a, vs ++ [u], rfl, upd_same, b2, b3, ?_, ?_⟩
            · show DqAll K F (vs ++ [u]) (datas (ls ++ [p]))
              unfold datas
              rw [List.map_append]
              exact b4.app (.cons du .nil)
            · show (ls ++ [p]).length ≤ N.n + 1
              rw [List.length_append, List.length_singleton]
              omega
          · rw [if_neg ej]
            refine AhAt.up (Nat.le_succ _) (fun a' ea => ?_) (a3 j)
            obtain ⟨m1, _, _⟩ := nel ea
            rw [upd_ne, upd_ne m1]
            exact fun zz => ej (a4 _ _ a (zz ▸ ea) hv)
  · -- a new list
    have ha : upd (upd H l (.lst [])) da u0 l = some (.lst []) := by rw [upd_ne na.symm, upd_same]
    have hno : N.ah k = none := by
      have z := a3 k
      rw [hv] at z
      cases e' : N.ah k with
      | none => rfl
      | some ls => rw [e'] at z; exact z.elim
    refine ⟨.inl ⟨rfl, [], SqL.of ha⟩, l, [], u, rfl, rfl, ha, by decide, ?_⟩
    refine q _ (((e.trans (Ex.new hl)).mut h.fa).mut lF) (((e0.trans (Ex.new hl)).mut h.ha).mut l0) ⟨h.ne, h.fl, h.fa, h.hl, h.ha, ⟨lk, l1.at ?_, Nat.le_succ_of_le l2, l3⟩, ⟨_, nd.at ?_, ?_, fun j => ?_, fun j j' a h1 h2 => ?_⟩⟩
    · rw [upd_ne nl, upd_ne h.ne, upd_ne nl]
    · rw [upd_ne na]
    · have := length_putK ak k (V.ref l)
      show _ ≤ N.n + 1
      omega
    · show AhAt K H0 F _ (N.n + 1) _ (if j = k then some ((N.ah k).getD [] ++ [p]) else N.ah j)
      rw [valV_putK]
      by_cases ej : j = k
      · rw [if_pos ej, if_pos ej, hno]
        exact ⟨l, [] ++ [u], rfl, upd_same, lF, l0, .cons du .nil, by show 1 ≤ N.n + 1; omega⟩
      · rw [if_neg ej, if_neg ej]
        refine AhAt.up (Nat.le_succ _) (fun a' ea => ?_) (a3 j)
        obtain ⟨m1, _, m3⟩ := nel ea
        rw [upd_ne m1, upd_ne m3, upd_ne m1]
    · rw [valV_putK] at h1 h2
      by_cases ej : j = k
      · rw [if_pos ej] at h1
        by_cases ej' : j' = k
        · exact ej.trans ej'.symm
        · rw [if_neg ej'] at h2
          cases h1
          exact absurd rfl (nel h2).1
      · rw [if_neg ej] at h1
        by_cases ej' : j' = k
        · rw [if_pos ej'] at h2
          cases h2
          exact absurd rfl (nel h1).1
        · rw [if_neg ej'] at h2
          exact a4 j j' a h1 h2
end
end Wp
/-! Statements while the net is made. -/
namespace Wp
open PySem PySem.Spec PyProof.Rows L2
def netI (C dl da : Addr) : MP := insM C [("left", refM dl), ("ahead", refM da)]
structure WN (K : PySem.W.Frag) (w : World) (dl da : Addr) (F0 H0 : Hp) (A : AS) (σ : L2.St) (F H : Hp) (N : NetN) : Prop where
  wd : Wd K F0 H0 A σ F H
  all : ∀ (i : Nat) (o : Ow), A[i]? ≠ some (some (.own o))
  net : NetH K w H0 F H dl da N
def NSt (K : PySem.W.Frag) (w : World) (dl da : Addr) (ts : TS) (A : AS) (N : NetN) (nx : AS → NetN → Prop) : Prop :=
  ∀ F0 H0 σ F H D, WN K w dl da F0 H0 A σ F H N → (∀ A' N' σ' F' H', WN K w dl da F0 H0 A' σ' F' H' N' → nx A' N' → D.nx σ' H') → ts D σ H
section
variable {K : PySem.W.Frag} {w : World} {dl da : Addr} {F0 H0 F H : Hp} {A : AS} {σ : L2.St} {N : NetN}
theorem WN.go {F' H' : Hp} (x : WN K w dl da F0 H0 A σ F H N) (g : Grow F H F' H') : WN K w dl da F0 H0 A σ F' H' N := ⟨x.wd.go g, x.all, x.net.grow g⟩
theorem WN.set {i : Nat} {m : MP} {v : V} (x : WN K w dl da F0 H0 A σ F H N) (h : m.P F v) : WN K w dl da F0 H0 (A.set i (some (.d m))) (σ.set i (some v)) F H N := by
  refine ⟨x.wd.set h, fun j o e => ?_, x.net⟩
  rcases get_set e with ⟨_, q, _⟩ | ⟨_, q⟩
  · cases q
  · exact x.all j o q
theorem WN.step {N' : NetN} {F' H' : Hp} (x : WN K w dl da F0 H0 A σ F H N) (e : Grow F H0 F' H') (n : NetH K w H0 F' H' dl da N') : WN K w dl da F0 H0 A σ F' H' N' := by
  refine ⟨⟨⟨x.wd.grow.f.trans e.f, e.h, e.hh, fun a h => ?_⟩, x.wd.len, fun i y q => ?_, fun i j o o' p q => absurd q (x.all i o)⟩, x.all, n⟩
  · rcases e.new a h with z | z
    · exact x.wd.grow.new a z
    · exact .inr z
  · obtain ⟨v, s, ok⟩ := x.wd.sl i y q
    refine ⟨v, s, ?_⟩
    cases y with
    | d m => exact m.mono e.f ok
    | own o => exact absurd q (x.all i o)
theorem WN.base {F1 H1 : Hp} (x : WN K w dl da F0 H0 A σ F1 H1 N) : WN K w dl da F1 H0 A σ F1 H1 N := ⟨x.wd.base, x.all, x.net⟩
theorem WN.unbase {F1 H1 F' H' : Hp} {A' : AS} {σ' : L2.St} (g : Grow F0 H0 F1 H1) (x : WN K w dl da F1 H0 A' σ' F' H' N) : WN K w dl da F0 H0 A' σ' F' H' N := ⟨Wd.unbase g x.wd, x.all, x.net⟩
end
section
variable {K : PySem.W.Frag} {w : World} {dl da : Addr} {A : AS} {N : NetN} {nx : AS → NetN → Prop} {t u ts : TS} {tt : TT} {te tf tf2 ti to : TE} {tas : TA} {wi : TI}
theorem nst_seq (h : NSt K w dl da t A N fun A' N' => NSt K w dl da u A' N' nx) : NSt K w dl da (tSeq t u) A N nx := fun F0 H0 σ F H D x k =>
  h F0 H0 σ F H { D with nx := u D } x fun A' N' σ' F' H' x' q => q F0 H0 σ' F' H' D x' k
theorem nst_next (h : nx A N) : NSt K w dl da tNext A N nx := fun F0 H0 σ F H D x k => k A N σ F H x h
theorem nst_asg {i : Nat} (h : EvP K te A fun m => nx (A.set i (some (.d m))) N) : NSt K w dl da (tAsg te (gName i)) A N nx := fun F0 H0 σ F H D x k =>
  h F0 H0 σ F H x.wd _ fun v m F' H' g p q => k _ _ _ F' H' ((x.go g).set p) q
theorem nst_if (h : EvT K tt A fun b => if b = true then NSt K w dl da t A N nx else NSt K w dl da u A N nx) : NSt K w dl da (tIfS tt t u) A N nx := fun F0 H0 σ F H D x k =>
  h F0 H0 σ F H x.wd _ fun b F' H' g q => by
    cases b with
    | true => exact q F0 H0 σ F' H' D (x.go g) k
    | false => exact q F0 H0 σ F' H' D (x.go g) k
theorem nst_for {j : Nat} (h : EvI K wi A fun ms => ∃ I : Nat → AS → NetN → Prop, I 0 A N ∧ (∀ i m A' N', ms[i]? = some m → I i A' N' → NSt K w dl da ts (A'.set j (some (.d m))) N' (I (i + 1))) ∧ ∀ A' N', I ms.length A' N' → nx A' N') :
    NSt K w dl da (tFor wi (gName j) ts) A N nx := fun F0 H0 σ F H D x k => by
  refine h F0 H0 σ F H x.wd _ fun J ms F1 H1 g1 it ⟨I, i0, turn, fin⟩ => ?_
  have x1 := (x.go g1).base
  have g01 := x.wd.grow.trans g1
  refine ⟨fun i m σ' H' => m = ms.length - i ∧ i ≤ ms.length ∧ ∃ A' N' F', WN K w dl da F1 H0 A' σ' F' H' N' ∧ I i A' N', ⟨ms.length, by simp, Nat.zero_le _, A, N, F1, x1, i0⟩, ?_⟩
  rintro i m σ' H' ⟨rfl, hi, A', N', F', x', hI⟩
  have jt := it F' H' x'.wd.grow.f x'.wd.grow.h i
  by_cases hlt : i < ms.length
  · obtain ⟨go, yl⟩ := jt.2 ms[i] (List.getElem?_eq_getElem hlt)
    refine .inr ⟨go, fun σ2 H2 => ∃ A' N' F', WN K w dl da F1 H0 A' σ2 F' H2 N' ∧ I (i + 1) A' N', fun σ2 H2 q => ⟨ms.length - (i + 1), by omega, rfl, hlt, q⟩, fun y H2 yy => ?_⟩
    obtain ⟨F2, g2, px⟩ := yl y H2 yy
    exact turn i ms[i] A' N' (List.getElem?_eq_getElem hlt) hI F1 H0 _ F2 H2 _ ((x'.go g2).set px) fun A3 N3 σ3 F3 H3 x3 q3 => ⟨A3, N3, F3, x3, q3⟩
  · have e : i = ms.length := by omega
    subst e
    exact .inl ⟨jt.1 rfl, k A' N' σ' F' H' (WN.unbase g01 x') (fin A' N' hI)⟩
/-! ### the three statements of add -/
theorem nst_setL {k : NK} {i : Int} (ok : Okk k) (hn : N.n < 100000) (h : EvP K te A fun m => m = dI K i ∧ EvP K tf A fun m => m = refM dl ∧ EvP K ti A fun kk => kk = dat K k.data ∧ nx A (N.setL k i)) :
    NSt K w dl da (tAsg te (gSub tf ti (rNSet w K))) A N nx := fun F0 H0 σ F H D x k0 => by
  refine h F0 H0 σ F H x.wd _ fun v m F1 H1 g1 p1 ⟨e1, h1⟩ => ?_
  subst e1
  rw [p_int p1]
  refine h1 F0 H0 σ F1 H1 (x.go g1).wd _ fun v2 m2 F2 H2 g2 p2 ⟨e2, h2⟩ => ?_
  subst e2
  have p2 : v2 = .ref dl := p2
  subst p2
  have x2 := x.go (g1.trans g2)
  refine h2 F0 H0 σ F2 H2 x2.wd _ fun v3 m3 F3 H3 g3 p3 ⟨e3, q⟩ => ?_
  subst e3
  have x3 := x2.go g3
  exact net_set x3.net x3.wd.grow.h x3.wd.grow.hh ok (Dq.dp _ _ p3) hn fun H' ex e0 n' => k0 A _ σ F3 H' (x3.step ⟨Ex.refl _, ex, e0, fun _ z => .inl z⟩ n') q
theorem nst_setG {k k' : NK} (ok : Okk k) (ok' : Okk k') (hn : N.n < 100000) (h : EvP K tf A fun m => m = refM dl ∧ EvA K tas A fun ms => ms = [dat K k'.data, dI K 0] ∧ EvP K tf2 A fun m => m = refM dl ∧ EvP K ti A fun kk => kk = dat K k.data ∧ nx A (N.setL k ((N.lf k').getD 0))) :
    NSt K w dl da (tAsg (tNM w (rNGetOr w K) tf tas) (gSub tf2 ti (rNSet w K))) A N nx := fun F0 H0 σ F H D x k0 => by
  refine h F0 H0 σ F H x.wd _ fun v m F1 H1 g1 p1 ⟨e1, h1⟩ => ?_
  subst e1
  have p1 : v = .ref dl := p1
  subst p1
  have x1 := x.go g1
  obtain ⟨lk, l1, _⟩ := x1.net.left
  obtain ⟨xs, hx, _⟩ := l1
  refine ⟨⟨dl, xs, rfl, hx⟩, ?_⟩
  refine h1 F0 H0 σ F1 H1 x1.wd _ fun vs ms F2 H2 g2 p2 ⟨e2, h2⟩ => ?_
  subst e2
  obtain ⟨y, z, rfl, py, pz⟩ := mps2 p2
  rw [p_int pz]
  have x2 := x1.go g2
  refine net_getOr x2.net x2.wd.grow.h ok' (Dq.dp _ _ py) ?_
  refine h2 F0 H0 σ F2 H2 x2.wd _ fun v3 m3 F3 H3 g3 p3 ⟨e3, h3⟩ => ?_
  subst e3
  have p3 : v3 = .ref dl := p3
  subst p3
  have x3 := x2.go g3
  refine h3 F0 H0 σ F3 H3 x3.wd _ fun v4 m4 F4 H4 g4 p4 ⟨e4, q⟩ => ?_
  subst e4
  have x4 := x3.go g4
  exact net_set x4.net x4.wd.grow.h x4.wd.grow.hh ok (Dq.dp _ _ p4) hn fun H' ex e0 n' => k0 A _ σ F4 H' (x4.step ⟨Ex.refl _, ex, e0, fun _ z => .inl z⟩ n') q
theorem nst_app {k p : NK} {j : Nat} (ok : Okk k) (hn : N.n < 100000) (hj : A[j]? = some (some (.d (dat K p.data)))) (h : EvP K tf A fun m => m = refM da ∧ EvP K ti A fun kk => kk = dat K k.data ∧ nx A (N.app k p)) :
    NSt K w dl da (tDrop (tBM K "list" rAppend (tNM w (rNDflt w K) tf (tCons ti (tCons (tLst tNil) tNil))) (tCons (tVar j) tNil))) A N nx := fun F0 H0 σ F H D x k0 => by
  refine h F0 H0 σ F H x.wd _ fun v m F1 H1 g1 p1 ⟨e1, h1⟩ => ?_
  subst e1
  have p1 : v = .ref da := p1
  subst p1
  have x1 := x.go g1
  obtain ⟨ak, a1, _⟩ := x1.net.ahead
  obtain ⟨xs, hx, _⟩ := a1
  refine ⟨⟨da, xs, rfl, hx⟩, ?_⟩
  refine h1 F0 H0 σ F1 H1 x1.wd _ fun v2 m2 F2 H2 g2 p2 ⟨e2, q⟩ => ?_
  subst e2
  have x2 := x1.go g2
  obtain ⟨u, su, pu⟩ := x2.wd.sl j _ hj
  have pu : Dq K F2 u p.data := pu
  refine ⟨by decide, fun l hl => ?_⟩
  have key := net_app (y := v2) (u := u) (l := l) (Q := fun _ H' => D.nx σ H') x2.net x2.wd.grow.h x2.wd.grow.hh ok (Dq.dp _ _ p2) pu hn hl fun H' ex e0 n' => k0 A _ σ F2 H' (x2.step ⟨Ex.refl _, ex, e0, fun _ z => .inl z⟩ n') q
  obtain ⟨G, d, kvs, kk, y, z, a0, a1, a2, a3, a4, a5, a6⟩ := key
  refine ⟨G, d, kvs, kk, y, z, a0, a1, a2, a3, a4, fun v hv => ?_, fun hv u0 nd => ?_⟩
  · obtain ⟨b1, b2⟩ := a5 v hv
    exact ⟨b1, u, su, b2⟩
  · obtain ⟨b1, b2⟩ := a6 hv u0 nd
    exact ⟨b1, u, su, b2⟩
end
/-! ### add -/
def SpAdd (K : PySem.W.Frag) (w : World) (C : Addr) : Sp := fun vs H Q _ => ∃ H0 F x v1 v2 i p q dl da N, vs = [.ref x, v1, v2, .int i] ∧ Ex F H ∧ Ex H0 H ∧ (netI C dl da).P F (.ref x) ∧ NetH K w H0 F H dl da N ∧ Dq K F v1 p.data ∧ Dq K F v2 q.data ∧
  Okk p ∧ Okk q ∧ Okk (pr p q) ∧ Okk (pr q p) ∧ N.n < 90000 ∧ ∀ F' H', Grow F H0 F' H' → NetH K w H0 F' H' dl da (N.add p q i) → Q .non H'
section
variable {K : PySem.W.Frag} {w : World} {dl da C : Addr} {A : AS} {N : NetN} {nx : AS → NetN → Prop} {to : TE} {tas : TA} {E : XK}
theorem nst_add {p q : NK} {i : Int} (op : Okk p) (oq : Okk q) (o1 : Okk (pr p q)) (o2 : Okk (pr q p)) (hn : N.n < 90000)
    (h : EvP K to A fun m => m = netI C dl da ∧ EvA K tas A fun ms => ms = [dat K p.data, dat K q.data, dI K i] ∧ nx A (N.add p q i)) : NSt K w dl da (tDrop (tMeth C "add" (SpAdd K w C) [] E to tas)) A N nx := fun F0 H0 σ F H D x k0 => by
  refine h F0 H0 σ F H x.wd _ fun v m F1 H1 g1 p1 ⟨e1, h1⟩ => ?_
  subst e1
  have pI := p1
  obtain ⟨a, dx, vs, rfl, hF, hf⟩ := p1
  have x1 := x.go g1
  refine ⟨a, dx, vs, rfl, x1.wd.grow.h _ _ hF, fs_none hf rfl, ?_⟩
  refine h1 F0 H0 σ F1 H1 x1.wd _ fun us ms F2 H2 g2 p2 ⟨e2, r⟩ => ?_
  subst e2
  have x2 := x1.go g2
  cases p2 with
  | @cons v1 _ r1 _ q1 b1 =>
    obtain ⟨v2, v3, rfl, q2, q3⟩ := mps2 b1
    rw [p_int q3]
    exact ⟨H0, F2, a, v1, v2, i, p, q, dl, da, N, rfl, x2.wd.grow.h, x2.wd.grow.hh, (netI C dl da).mono g2.f pI, x2.net, q1, q2, op, oq, o1, o2, hn, fun F' H' g n' => k0 A _ σ F' H' (x2.step g n') r⟩
end
section
variable {P : Program} {w : World} {K : PySem.W.Frag} {mg : Str → Option Value} {base : Heap}
/-- the reading of add's body -/
def AddT (K : PySem.W.Frag) (w : World) (C : Addr) (t : TS) : Prop := ∀ dl da p q i N, Okk p → Okk q → Okk (pr p q) → Okk (pr q p) → N.n < 90000 →
  NSt K w dl da t [some (.d (netI C dl da)), some (.d (dat K p.data)), some (.d (dat K q.data)), some (.d (dI K i))] N fun _ N' => N' = N.add p q i
theorem add_ok {x qual : Str} {st : Stmt} {f : Addr} {fd : FuncData} {N ps : List Str} {k : Nat} {C : Addr} (F : Fun K x qual st f fd) (S : FnScope N ps (defScope st)) (hN : N.length = 4) (hp : ps.length = 4)
    (h : ∀ (cdv : Value) (A : Around) (outer : List Env) (s : Shared) (H : Hp) (E : XK), Room k (A.deeper (envOfC qual (defScope st) s.heap.objs.size f cdv)) →
      ∃ t, PSs (cxOf CX0 P w K mg base N qual (defScope st) f cdv A outer s H E).nox (defBody st) t ∧ AddT K w C t) : FnOk P w K mg base CX0 (k + 1) f fd ps (SpAdd K w C) := by
  refine F.ok S (fun vs H Q E ⟨H0, F, x, v1, v2, i, p, q, dl, da, N, e, _⟩ => by rw [e, hp]; rfl) (fun cdv A outer s H vs Q E hr ⟨H0, F, x, v1, v2, i, p, q, dl, da, NN, e, ef, e0, hx, hn, d1, d2, op, oq, o1, o2, hl, k0⟩ => ?_)
  obtain ⟨t, ht, ha⟩ := h cdv A outer s H E hr
  refine ⟨t, ht, ?_⟩
  subst e
  have es : L2.start N [.ref x, v1, v2, .int i] = [some (.ref x), some v1, some v2, some (.int i)] := by
    unfold L2.start
    rw [hN]
    rfl
  have hm : MPs F [.ref x, v1, v2, .int i] [netI C dl da, dat K p.data, dat K q.data, dI K i] := .cons hx (.cons d1 (.cons d2 (.cons (i_int i) .nil)))
  have w0 := wd_ent (K := K) (N := N) ef hm
  have ee : ent N [netI C dl da, dat K p.data, dat K q.data, dI K i] = [some (.d (netI C dl da)), some (.d (dat K p.data)), some (.d (dat K q.data)), some (.d (dI K i))] := by
    unfold ent
    rw [hN]
    rfl
  rw [ee] at w0
  refine ha dl da p q i NN op oq o1 o2 hl F H0 _ F H _ ⟨⟨⟨Ex.refl F, ef, e0, fun _ z => .inl z⟩, w0.len, fun j y z => ?_, ?_⟩, ?_, hn⟩ fun A' N' σ' F' H' x' eN => ?_
  · obtain ⟨v, s1, s2⟩ := w0.sl j y z
    refine ⟨v, s1, ?_⟩
    cases y with
    | d m => exact s2
    | own o =>
      exfalso
      match j, z with
      | 0, z => cases z
      | 1, z => cases z
      | 2, z => cases z
      | 3, z => cases z
      | n + 4, z => simp at z
  · intro j l o o' a z
    exfalso
    match j, z with
    | 0, z => cases z
    | 1, z => cases z
    | 2, z => cases z
    | 3, z => cases z
    | n + 4, z => simp at z
  · intro j o z
    match j, z with
    | 0, z => cases z
    | 1, z => cases z
    | 2, z => cases z
    | 3, z => cases z
    | n + 4, z => simp at z
  · exact k0 F' H' x'.wd.grow (eN ▸ x'.net)
end
end Wp
/-! The net made and frozen; the first dict stays one's own. -/
namespace Wp
open PySem PySem.Spec PyProof.Rows L2
def N0 : NetN := ⟨fun _ => none, fun _ => none, 0⟩
/-- the promise of Net's __init__ -/
def SpNet (K : PySem.W.Frag) (w : World) (C : Addr) (pre : List MP → Prop) (post : List MP → NetN → Prop) : Sp := fun vs H Q _ => ∃ F ms x dx args, vs = .ref x :: args ∧ H x = some (.ins C dx []) ∧ F x = none ∧ Ex F H ∧ MPs F args ms ∧ pre ms ∧
  ∀ F' H' dl da N, Grow F (hideA H x) F' H' → NetH K w (hideA H x) F' H' dl da N → (netI C dl da).P F' (.ref x) → post ms N → Q .non H'
theorem start_cons {N : List Str} {v : V} {vs : List V} (hN : N.length ≠ 0) : L2.start N (v :: vs) = some v :: L2.start N.tail vs := by
  unfold L2.start
  rw [List.map_cons, List.cons_append, List.length_cons, List.length_tail]
  congr 3
  omega
theorem ent_noown {N : List Str} {ms : List MP} (i : Nat) (o : Ow) : (ent N ms)[i]? ≠ some (some (.own o)) := fun q => by
  unfold ent at q
  rw [List.getElem?_append] at q
  split at q
  · rw [List.getElem?_map] at q
    cases z : ms[i]? with
    | none => rw [z] at q; cases q
    | some m => rw [z] at q; cases q
  · rw [List.getElem?_replicate] at q
    split at q <;> cases q
section
variable {P : Program} {w : World} {K : PySem.W.Frag} {mg : Str → Option Value} {base : Heap}
theorem netinit_ok {qual : Str} {params : Arguments} {body : List Stmt} {scope : Scope} {dvs : List V} {kws : List (Str × V)} {f : Addr} {fd : FuncData} {N ps : List Str} {k : Nat} {C : Addr} {pre : List MP → Prop} {post : List MP → NetN → Prop}
    (F : FunD K "__init__" qual params body scope dvs kws f fd) (S : FnScope N ps scope) (hN : N.length ≠ 0) (len : ∀ ms, pre ms → ms.length + 1 = ps.length) (hc : Cls K C) (hl : NoAttr K C "left") (ha : NoAttr K C "ahead")
    (h : ∀ (cdv : Value) (A : Around) (outer : List Env) (s : Shared) (H : Hp) (E : XK), Room k (A.deeper (envOfC qual scope s.heap.objs.size f cdv)) →
      ∃ t, PSs (cxOf CX0 P w K mg base N qual scope f cdv A outer s H E).nox body (tSeq (sFld K (tVar 0) (tNew w) "left") (tSeq (sFld K (tVar 0) (tNew w) "ahead") t)) ∧
        ∀ dl da ms, pre ms → NSt K w dl da t (some (.d (netI C dl da)) :: ent N.tail ms) N0 fun _ N' => post ms N') : FnOk P w K mg base CX0 (k + 1) f fd ps (SpNet K w C pre post) := by
  refine F.ok S (fun vs H Q E ⟨F0, ms, x, dx, args, e, _, _, _, hm, hp, _⟩ => ?_) (fun cdv A outer s H vs Q E hr ⟨F0, ms, x, dx, args, e, hx, fx, ex, hm, hp, q⟩ => ?_)
  · rw [e, List.length_cons, mps_len hm, len ms hp]
  · obtain ⟨t, ht, hT⟩ := h cdv A outer s H E hr
    refine ⟨_, ht.nox, ?_⟩
    subst e
    rw [start_cons hN]
    intro dl hdl sdl
    have nx : dl ≠ x := fun z => by rw [z, hx] at hdl; cases hdl
    refine ⟨.ref x, rfl, x, C, dx, [], rfl, by rw [upd_ne nx.symm]; exact hx, hc, hl, by decide, ?_⟩
    intro da hda sda
    have nda : da ≠ dl := fun z => by
      rw [z, upd_ne nx, upd_same] at hda
      cases hda
    have nxa : da ≠ x := fun z => by
      rw [z, upd_same] at hda
      cases hda
    refine ⟨.ref x, rfl, x, C, dx, [(Str.ofString "left", V.ref dl)], rfl, by rw [upd_ne nxa.symm, upd_same]; rfl, hc, ha, (show 1 < 1000 by decide), ?_⟩
    have ep : putF (Str.ofString "ahead") (V.ref da) [(Str.ofString "left", V.ref dl)] = ([(Str.ofString "left", V.ref dl), (Str.ofString "ahead", V.ref da)] : List (Str × V)) := rfl
    rw [ep]
    have hda0 : H da = none := by rw [upd_ne nxa, upd_ne nda] at hda; exact hda
    have atx : ∀ {o : HO} {H1 : Hp}, upd H1 x o x = some o := upd_same
    -- the heap
    generalize eH : upd (upd (upd (upd H dl (.ext (nobj w dl []))) x (.ins C dx (putF (Str.ofString "left") (V.ref dl) []))) da (.ext (nobj w da []))) x (.ins C dx [(Str.ofString "left", V.ref dl), (Str.ofString "ahead", V.ref da)]) = H2
    have h2x : H2 x = some (.ins C dx [(Str.ofString "left", V.ref dl), (Str.ofString "ahead", V.ref da)]) := by rw [← eH, upd_same]
    have h2l : H2 dl = some (.ext (nobj w dl [])) := by rw [← eH, upd_ne nx, upd_ne nda.symm, upd_ne nx, upd_same]
    have h2a : H2 da = some (.ext (nobj w da [])) := by rw [← eH, upd_ne nxa, upd_same]
    have h2o : ∀ a, a ≠ x → a ≠ dl → a ≠ da → H2 a = H a := fun a n1 n2 n3 => by rw [← eH, upd_ne n1, upd_ne n3, upd_ne n1, upd_ne n2]
    have keep : ∀ a u, a ≠ x → H a = some u → H2 a = some u := fun a u n1 hu => by
      rw [h2o a n1 (fun z => by rw [z, hdl] at hu; cases hu) (fun z => by rw [z, hda0] at hu; cases hu)]
      exact hu
    have exH0 : Ex (hideA H x) H2 := fun a u z => by
      have n1 : a ≠ x := fun y => by rw [y, hide_same] at z; cases z
      rw [hide_ne n1] at z
      exact keep a u n1 z
    have exF : Ex (upd F0 x (.ins C dx [(Str.ofString "left", V.ref dl), (Str.ofString "ahead", V.ref da)])) H2 := fun a u z => by
      by_cases n1 : a = x
      · rw [n1, upd_same] at z
        rw [n1, h2x, z]
      · rw [upd_ne n1] at z
        exact keep a u n1 (ex a u z)
    have fdl : F0 dl = none := ex.free hdl
    have fda : F0 da = none := ex.free hda0
    have exFF : Ex F0 (upd F0 x (.ins C dx [(Str.ofString "left", V.ref dl), (Str.ofString "ahead", V.ref da)])) := Ex.new fx
    have wE := wd_ent (K := K) (N := N.tail) exF (MPs.grow exFF hm)
    have hI : (netI C dl da).P (upd F0 x (.ins C dx [(Str.ofString "left", V.ref dl), (Str.ofString "ahead", V.ref da)])) (.ref x) := ⟨x, dx, _, rfl, upd_same, .cons ⟨rfl, rfl⟩ (.cons ⟨rfl, rfl⟩ .nil)⟩
    refine hT dl da ms hp (upd F0 x (.ins C dx [(Str.ofString "left", V.ref dl), (Str.ofString "ahead", V.ref da)])) (hideA H x) _ _ H2 _ ⟨⟨⟨Ex.refl _, exF, exH0, fun _ z => .inl z⟩, by rw [List.length_cons, List.length_cons, wE.len], fun i y z => ?_, ?_⟩, ?_, ?_⟩ fun A' N' σ' F' H' x' pN => ?_
    · cases i with
      | zero =>
        cases Option.some.inj z
        exact ⟨.ref x, rfl, hI⟩
      | succ i =>
        obtain ⟨v, s1, s2⟩ := wE.sl i y z
        refine ⟨v, s1, ?_⟩
        cases y with
        | d m => exact s2
        | own o => exact absurd z (ent_noown i o)
    · intro i j o o' p z
      cases i with
      | zero => cases z
      | succ i => exact absurd z (ent_noown i o)
    · intro i o z
      cases i with
      | zero => cases z
      | succ i => exact absurd z (ent_noown i o)
    · refine ⟨nda.symm, by rw [upd_ne nx]; exact fdl, by rw [upd_ne nxa]; exact fda, by rw [hide_ne nx]; exact hdl, by rw [hide_ne nxa]; exact hda0, ⟨[], ⟨[], h2l, .nil, List.nodup_nil, sdl, Nat.zero_le _⟩, Nat.le_refl _, fun k => rfl⟩, ⟨[], ⟨[], h2a, .nil, List.nodup_nil, sda, Nat.zero_le _⟩, Nat.le_refl _, fun k => True.intro, fun k k' a z => by cases z⟩⟩
    · refine q F' H' dl da N' ⟨exFF.trans x'.wd.grow.f, x'.wd.grow.h, x'.wd.grow.hh, fun a z => ?_⟩ x'.net ((netI C dl da).mono x'.wd.grow.f hI) pN
      rcases x'.wd.grow.new a z with r | r
      · by_cases n1 : a = x
        · exact .inr (by rw [n1, hide_same])
        · rw [upd_ne n1] at r
          exact .inl r
      · exact .inr r
end
/-! ### the frozen net, its first dict one's own -/
structure LeftH (K : PySem.W.Frag) (w : World) (H0 F H : Hp) (dl : Addr) (lf : NK → Option Int) (n : Nat) : Prop where
  fl : F dl = none
  hl : H0 dl = none
  left : ∃ lk : List (NK × V), ND w K F H dl lk ∧ lk.length ≤ n ∧ ∀ k, valV lk k = (lf k).map V.int
def aheadM (K : PySem.W.Frag) (w : World) (ah : NK → Option (List NK)) (n : Nat) : MP := mdM K w (fun k => (ah k).map fun l => dL K (datas l)) n
def leftM (K : PySem.W.Frag) (w : World) (lf : NK → Option Int) (n : Nat) : MP := mdM K w (fun k => (lf k).map (dI K)) n
/-- its first dict at dl -/
def netF (K : PySem.W.Frag) (w : World) (C dl : Addr) (ah : NK → Option (List NK)) (n : Nat) : MP := insM C [("left", refM dl), ("ahead", aheadM K w ah n)]
/-- all frozen -/
def netP (K : PySem.W.Frag) (w : World) (C : Addr) (lf : NK → Option Int) (ah : NK → Option (List NK)) (n : Nat) : MP := insM C [("left", leftM K w lf n), ("ahead", aheadM K w ah n)]
section
variable {K : PySem.W.Frag} {w : World} {H0 F H : Hp} {dl da C : Addr} {N : NetN}
open Classical in
theorem net_freeze {v : V} (h : NetH K w H0 F H dl da N) (e : Ex F H) (e0 : Ex H0 H) (hI : (netI C dl da).P F v) : ∃ F', Grow F H0 F' H ∧ (netF K w C dl N.ah N.n).P F' v ∧ LeftH K w H0 F' H dl N.lf N.n := by
  obtain ⟨lk, l1, l2, l3⟩ := h.left
  obtain ⟨ak, a1, a2, a3, a4⟩ := h.ahead
  obtain ⟨f1, e1⟩ := l1.isE
  obtain ⟨xs, a11, a12, a13, a14, a15⟩ := a1
  have at_ : ∀ {j : NK} {a : Addr}, valV ak j = some (.ref a) → ∃ ls vs, N.ah j = some ls ∧ H a = some (.lst vs) ∧ F a = none ∧ H0 a = none ∧ DqAll K F vs (datas ls) ∧ ls.length ≤ N.n := fun {j a} ea => by
    have z := a3 j
    rw [ea] at z
    cases e' : N.ah j with
    | none => rw [e'] at z; exact z.elim
    | some ls =>
      rw [e'] at z
      obtain ⟨a', vs, ex, b⟩ := z
      cases ex
      exact ⟨ls, vs, rfl, b⟩
  let F' : Hp := fun a => if a = da ∨ ∃ k, valV ak k = some (.ref a) then H a else F a
  have fF : Ex F F' := fun a u z => by
    show (if a = da ∨ ∃ k, valV ak k = some (.ref a) then H a else F a) = some u
    split
    · exact e a u z
    · exact z
  have fH : Ex F' H := fun a u z => by
    have z : (if a = da ∨ ∃ k, valV ak k = some (.ref a) then H a else F a) = some u := z
    split at z
    · exact z
    · exact e a u z
  have fda : F' da = some (.ext (nobj w da xs)) := by
    show (if da = da ∨ ∃ k, valV ak k = some (.ref da) then H da else F da) = _
    rw [if_pos (.inl rfl)]
    exact a11
  have fdl : F' dl = none := by
    show (if dl = da ∨ ∃ k, valV ak k = some (.ref dl) then H dl else F dl) = _
    rw [if_neg]
    · exact h.fl
    · rintro (z | ⟨k, z⟩)
      · exact h.ne z
      · obtain ⟨_, vs, _, b, _⟩ := at_ z
        rw [e1] at b
        cases b
  refine ⟨F', ⟨fF, fH, e0, fun a z => ?_⟩, ?_, ⟨fdl, h.hl, lk, l1.exF fF, l2, l3⟩⟩
  · have z : (if a = da ∨ ∃ k, valV ak k = some (.ref a) then H a else F a) ≠ none := z
    split at z
    · rename_i c
      rcases c with c | ⟨k, c⟩
      · exact .inr (c ▸ h.ha)
      · obtain ⟨_, _, _, _, _, b, _⟩ := at_ c
        exact .inr b
    · exact .inl z
  · obtain ⟨p, dx, vs, rfl, hp, hf⟩ := hI
    refine ⟨p, dx, vs, rfl, fF _ _ hp, ?_⟩
    cases hf with
    | @cons x1 y1 r1 s1 c1 c2 =>
      cases c2 with
      | @cons x2 y2 r2 s2 d1 d2 =>
        cases d2
        refine .cons ⟨c1.1, c1.2⟩ (.cons ⟨d1.1, ?_⟩ .nil)
        have ev : x2.2 = .ref da := d1.2
        show (aheadM K w N.ah N.n).P F' x2.2
        refine ⟨da, xs, ak, ev, fda, ⟨Paired.mapP a12 fun p x ⟨h1, ⟨kv, h2, h3⟩, h4⟩ => ⟨h1, ⟨kv, h2, Dp.ex fF _ _ h3⟩, h4⟩, a13, a14, a2, fun k => ?_⟩⟩
        have z := a3 k
        cases ek : valV ak k with
        | none =>
          rw [ek] at z
          cases e' : N.ah k with
          | none => exact True.intro
          | some l => rw [e'] at z; exact z.elim
        | some v =>
          rw [ek] at z
          cases e' : N.ah k with
          | none => rw [e'] at z; exact z.elim
          | some l =>
            rw [e'] at z
            obtain ⟨a, us, rfl, b1, b2, b3, b4, b5⟩ := z
            have fa : F' a = some (.lst us) := by
              show (if a = da ∨ ∃ k, valV ak k = some (.ref a) then H a else F a) = _
              rw [if_pos (.inr ⟨k, ek⟩)]
              exact b1
            exact Dq.lst fa (DqAll.ex fF _ _ b4)
theorem LeftH.grow {lf : NK → Option Int} {n : Nat} {F' H' : Hp} (h : LeftH K w H0 F H dl lf n) (g : Grow F H F' H') : LeftH K w H0 F' H' dl lf n := by
  obtain ⟨lk, l1, l2, l3⟩ := h.left
  obtain ⟨f1, e1⟩ := l1.isE
  exact ⟨(g.own h.fl e1).1, h.hl, lk, (l1.ex g.hh).exF g.f, l2, l3⟩
/-- the first dict frozen too -/
theorem left_freeze {lf : NK → Option Int} {n : Nat} {ah : NK → Option (List NK)} {v : V} (h : LeftH K w H0 F H dl lf n) (e : Ex F H) (hN : (netF K w C dl ah n).P F v) : ∃ o, H dl = some o ∧ Ex F (upd F dl o) ∧ Ex (upd F dl o) H ∧ (netP K w C lf ah n).P (upd F dl o) v ∧ ∀ xs, ¬ Rd H dl (.tup xs) := by
  obtain ⟨lk, l1, l2, l3⟩ := h.left
  obtain ⟨xs, a1, a2, a3, a4, a5⟩ := l1
  refine ⟨_, a1, Ex.new h.fl, fun a u z => ?_, ?_, fun xs z => ?_⟩
  · by_cases n1 : a = dl
    · rw [n1, upd_same] at z
      rw [n1, a1, z]
    · rw [upd_ne n1] at z
      exact e a u z
  · have ex := Ex.new (o := .ext (nobj w dl xs)) h.fl
    obtain ⟨p, dx, vs, rfl, hp, hf⟩ := hN
    refine ⟨p, dx, vs, rfl, ex _ _ hp, ?_⟩
    cases hf with
    | @cons x1 y1 r1 s1 c1 c2 =>
      cases c2 with
      | @cons x2 y2 r2 s2 d1 d2 =>
        cases d2
        refine .cons ⟨c1.1, ?_⟩ (.cons ⟨d1.1, (aheadM K w ah n).mono ex d1.2⟩ .nil)
        have ev : x1.2 = .ref dl := c1.2
        refine ⟨dl, xs, lk, ev, upd_same, ⟨Paired.mapP a2 fun p x ⟨h1, ⟨kv, h2, h3⟩, h4⟩ => ⟨h1, ⟨kv, h2, Dp.ex ex _ _ h3⟩, h4⟩, a3, a4, l2, fun k => ?_⟩⟩
        rw [l3]
        cases lf k with
        | none => exact True.intro
        | some i => exact i_int i
  · rcases z with z | ⟨o, z⟩
    · rw [a1] at z; cases z
    · rw [a1] at z; cases z
end
end Wp
/-! The net read and pushed. -/
namespace Wp
open PySem PySem.Spec PyProof.Rows L2
/-! ### a def that gives what is its own -/
def SpR (K : PySem.W.Frag) (pre : List MP → Prop) (post : List MP → Ow → Prop) : Sp := fun vs H Q _ => ∃ F ms, Ex F H ∧ MPs F vs ms ∧ pre ms ∧
  ∀ p h o F' H', Grow F H F' H' → H p = none → F' p = none → H' p = some h → OwOk K F' p o h → post ms o → Q (.ref p) H'
section
variable {P : Program} {w : World} {K : PySem.W.Frag} {mg : Str → Option Value} {base : Heap}
theorem fun_okR {x qual : Str} {st : Stmt} {f : Addr} {fd : FuncData} {N ps : List Str} {k : Nat} {pre : List MP → Prop} {post : List MP → Ow → Prop} (F : Fun K x qual st f fd) (S : FnScope N ps (defScope st)) (len : ∀ ms, pre ms → ms.length = ps.length)
    (h : ∀ (cdv : Value) (A : Around) (outer : List Env) (s : Shared) (H : Hp) (E : XK), Room k (A.deeper (envOfC qual (defScope st) s.heap.objs.size f cdv)) →
      ∃ t, PSs (cxOf CX0 P w K mg base N qual (defScope st) f cdv A outer s H E).nox (defBody st) t ∧ ∀ ms, pre ms → ASt K t (ent N ms) { nx := fun _ => False, rt := fun _ => False, rn := post ms }) : FnOk P w K mg base CX0 (k + 1) f fd ps (SpR K pre post) := by
  refine F.ok S (fun vs H Q E ⟨F0, ms, _, hm, hp, _⟩ => ?_) (fun cdv A outer s H vs Q E hr ⟨F0, ms, e, hm, hp, q⟩ => ?_)
  · rw [mps_len hm, len ms hp]
  · obtain ⟨t, ht, ha⟩ := h cdv A outer s H E hr
    exact ⟨t, ht, ha ms hp F0 H _ F0 H _ (wd_ent e hm) ⟨fun A' σ' F' H' w' r => r.elim, fun v m F' H' g p r => r.elim, fun _ _ _ _ _ z => z.elim, fun _ _ _ _ _ z => z.elim, fun p h o F' H' g h0 h1 h2 h3 h4 => q p h o F' H' g h0 h1 h2 h3 h4⟩⟩
end
section
variable {K : PySem.W.Frag} {te : TE} {tas : TA} {A : AS} {P : MP → Prop} {pre : List MP → Prop} {post : List MP → Ow → Prop} {E : XK}
theorem own_frz {F H : Hp} {p : Addr} {h : HO} {o : Ow} (e : Ex F H) (h1 : F p = none) (h2 : H p = some h) (h3 : OwOk K F p o h) : Ex F (upd F p h) ∧ Ex (upd F p h) H ∧ (owM K o).P (upd F p h) (.ref p) := by
  refine ⟨Ex.new h1, fun a u q => ?_, owM_ok (h3.ex (Ex.new h1)) upd_same⟩
  by_cases z : a = p
  · rw [z, upd_same] at q
    rw [z, h2, q]
  · rw [upd_ne z] at q
    exact e a u q
theorem evp_methR {C : Addr} {name : Str} (h : EvP K te A fun m => InsOk C name m ∧ EvA K tas A fun ms => pre (m :: ms) ∧ ∀ o, post (m :: ms) o → P (owM K o)) : EvP K (tMeth C name (SpR K pre post) [] E te tas) A P := fun F0 H0 σ F H w Q k => by
  refine h F0 H0 σ F H w _ fun x m F1 H1 g1 p1 ⟨hi, h1⟩ => ?_
  obtain ⟨a, dx, fs, rfl, ha, hl⟩ := hi F1 x p1
  refine ⟨a, dx, fs, rfl, g1.h _ _ ha, hl, ?_⟩
  refine h1 F0 H0 σ F1 H1 (w.go g1) _ fun xs ms F2 H2 g2 p2 ⟨hp, hq⟩ => ?_
  refine ⟨F2, m :: ms, g2.h, ?_, hp, fun p h o F' H' g n1 n2 n3 n4 q => ?_⟩
  · rw [List.append_nil]
    exact .cons (m.mono g2.f p1) p2
  · obtain ⟨z1, z2, z3⟩ := own_frz g.h n2 n3 n4
    have g12 := g1.trans g2
    refine k _ (owM K o) _ H' (g12.trans ⟨g.f.trans z1, z2, g.hh, fun a r => ?_⟩) z3 (hq o q)
    by_cases e : a = p
    · exact .inr (e ▸ n1)
    · rw [upd_ne e] at r
      exact g.new a r
end
/-! ### hiding -/
mutual
theorem Dp.hide {K : PySem.W.Frag} {F : Hp} {p : Addr} (ho : ∀ xs, ¬ Rd F p (.tup xs)) : ∀ (d : PyData) (v : V), noL d = true → Dp K F v d → Dp K (hideA F p) v d
  | .none, _, _, h => by cases h; exact .non
  | .bool _, _, _, h => by cases h; exact .bl _
  | .int _, _, _, h => by cases h; exact .int _
  | .str _, _, _, h => by cases h; exact .str _
  | .list _, _, n, _ => by simp [noL] at n
  | .tuple ds, _, n, h => by
    cases h with
    | @tup a xs _ q b =>
      refine .tup ?_ (DpAll.hide ho ds _ (by simpa [noL] using n) b)
      rcases q with q | q
      · refine .inl ?_
        have ne : a ≠ p := fun z => ho xs (z ▸ q)
        unfold Rd at q ⊢
        rw [hide_ne ne]
        exact q
      · exact .inr q
  | .dict _, _, _, h => by cases h
theorem DpAll.hide {K : PySem.W.Frag} {F : Hp} {p : Addr} (ho : ∀ xs, ¬ Rd F p (.tup xs)) : ∀ (ds : List PyData) (vs : List V), noL.noLs ds = true → DpAll K F vs ds → DpAll K (hideA F p) vs ds
  | [], _, _, h => by cases h; exact .nil
  | d :: ds, _, n, h => by
    cases h with
    | cons a b =>
      have n' : noL d = true ∧ noL.noLs ds = true := by simpa [noL.noLs] using n
      exact .cons (Dp.hide ho d _ n'.1 a) (DpAll.hide ho ds _ n'.2 b)
end
mutual
theorem nk_noL : ∀ k : NK, noL k.data = true
  | .none => by simp [NestedKey.data, noL]
  | .num _ => by simp [NestedKey.data, noL]
  | .text _ => by simp [NestedKey.data, noL]
  | .tup ks => by
    simp only [NestedKey.data, noL]
    exact nk_noLs ks
theorem nk_noLs : ∀ ks : List NK, noL.noLs (NestedKey.datas ks) = true
  | [] => by simp [NestedKey.datas, noL.noLs]
  | k :: ks => by
    simp only [NestedKey.datas, noL.noLs, Bool.and_eq_true]
    exact ⟨nk_noL k, nk_noLs ks⟩
end
/-- a dict whose values are data -/
def datF (K : PySem.W.Frag) (src : NK → Option PyData) : NK → Option MP := fun k => (src k).map (dat K)
theorem DctAt.hide {K : PySem.W.Frag} {w : World} {F : Hp} {p q : Addr} {src : NK → Option PyData} {n : Nat} {xs : List Ent} {kvs : List (NK × V)} {ob : HO} (hq : F q = some ob) (ho : ∀ ys, ¬ Rd F q (.tup ys)) (hs : ∀ k d, src k = some d → noL d = true) (D : DctAt K w F p (datF K src) n xs kvs) :
    DctAt K w (hideA F q) p (datF K src) n xs kvs := by
  refine ⟨Paired.mapP D.ents fun p x ⟨h1, ⟨kv, h2, h3⟩, h4⟩ => ⟨h1, ⟨kv, h2, Dp.hide ho _ _ (nk_noL _) h3⟩, h4⟩, D.nd, D.sys, D.few, fun k => ?_⟩
  have z := D.at' k
  unfold datF at z ⊢
  cases e1 : valV kvs k with
  | none =>
    rw [e1] at z
    cases e2 : src k with
    | none => exact True.intro
    | some d => rw [e2] at z; exact z.elim
  | some v =>
    rw [e1] at z
    cases e2 : src k with
    | none => rw [e2] at z; exact z.elim
    | some d =>
      rw [e2] at z
      exact Dq.hide hq ho d v (hs k d e2) z
/-! ### pushing: a small logic -/
abbrev LF := NK → Option Int
structure WL (K : PySem.W.Frag) (w : World) (dl : Addr) (n : Nat) (F0 H0 : Hp) (A : AS) (σ : L2.St) (F H : Hp) (lf : LF) : Prop where
  wd : Wd K F0 H0 A σ F H
  all : ∀ (i : Nat) (o : Ow), A[i]? ≠ some (some (.own o))
  net : LeftH K w H0 F H dl lf n
def LSt (K : PySem.W.Frag) (w : World) (dl : Addr) (n : Nat) (ts : TS) (A : AS) (lf : LF) (nx : AS → LF → Prop) (rt : MP → LF → Prop) : Prop :=
  ∀ F0 H0 σ F H D, WL K w dl n F0 H0 A σ F H lf → (∀ A' lf' σ' F' H', WL K w dl n F0 H0 A' σ' F' H' lf' → nx A' lf' → D.nx σ' H') →
    (∀ v m lf' F' H', Grow F0 H0 F' H' → LeftH K w H0 F' H' dl lf' n → m.P F' v → rt m lf' → D.rt v H') → ts D σ H
section
variable {K : PySem.W.Frag} {w : World} {dl : Addr} {n : Nat} {F0 H0 F H : Hp} {A : AS} {σ : L2.St} {lf : LF}
theorem WL.go {F' H' : Hp} (x : WL K w dl n F0 H0 A σ F H lf) (g : Grow F H F' H') : WL K w dl n F0 H0 A σ F' H' lf := ⟨x.wd.go g, x.all, x.net.grow g⟩
theorem WL.set {i : Nat} {m : MP} {v : V} (x : WL K w dl n F0 H0 A σ F H lf) (h : m.P F v) : WL K w dl n F0 H0 (A.set i (some (.d m))) (σ.set i (some v)) F H lf := by
  refine ⟨x.wd.set h, fun j o e => ?_, x.net⟩
  rcases get_set e with ⟨_, q, _⟩ | ⟨_, q⟩
  · cases q
  · exact x.all j o q
theorem WL.step {lf' : LF} {F' H' : Hp} (x : WL K w dl n F0 H0 A σ F H lf) (e : Grow F H0 F' H') (nn : LeftH K w H0 F' H' dl lf' n) : WL K w dl n F0 H0 A σ F' H' lf' := by
  refine ⟨⟨⟨x.wd.grow.f.trans e.f, e.h, e.hh, fun a h => ?_⟩, x.wd.len, fun i y q => ?_, fun i j o o' p q => absurd q (x.all i o)⟩, x.all, nn⟩
  · rcases e.new a h with z | z
    · exact x.wd.grow.new a z
    · exact .inr z
  · obtain ⟨v, s, ok⟩ := x.wd.sl i y q
    refine ⟨v, s, ?_⟩
    cases y with
    | d m => exact m.mono e.f ok
    | own o => exact absurd q (x.all i o)
theorem putK_len {kvs : List (NK × V)} {k : NK} {v : V} (h : (valV kvs k).isSome = true) : (putK kvs k v).length = kvs.length := by
  unfold putK
  rw [valV_any, if_pos h, List.length_map]
end
section
variable {K : PySem.W.Frag} {w : World} {dl : Addr} {n : Nat} {A : AS} {lf : LF} {nx : AS → LF → Prop} {rt : MP → LF → Prop} {t u ts : TS} {tt : TT} {te tf ti to : TE} {tas : TA}
theorem lst_seq (h : LSt K w dl n t A lf (fun A' l' => LSt K w dl n u A' l' nx rt) rt) : LSt K w dl n (tSeq t u) A lf nx rt := fun F0 H0 σ F H D x k r =>
  h F0 H0 σ F H { D with nx := u D } x (fun A' l' σ' F' H' x' q => q F0 H0 σ' F' H' D x' k r) r
theorem lst_next (h : nx A lf) : LSt K w dl n tNext A lf nx rt := fun F0 H0 σ F H D x k _ => k A lf σ F H x h
theorem lst_asg {i : Nat} (h : EvP K te A fun m => nx (A.set i (some (.d m))) lf) : LSt K w dl n (tAsg te (gName i)) A lf nx rt := fun F0 H0 σ F H D x k _ =>
  h F0 H0 σ F H x.wd _ fun v m F' H' g p q => k _ _ _ F' H' ((x.go g).set p) q
theorem lst_ret (h : EvP K te A fun m => rt m lf) : LSt K w dl n (tRet te) A lf nx rt := fun F0 H0 σ F H D x _ r =>
  h F0 H0 σ F H x.wd _ fun v m F' H' g p q => r v m lf F' H' (x.go g).wd.grow (x.go g).net p q
theorem lst_if (h : EvT K tt A fun b => if b = true then LSt K w dl n t A lf nx rt else LSt K w dl n u A lf nx rt) : LSt K w dl n (tIfS tt t u) A lf nx rt := fun F0 H0 σ F H D x k r =>
  h F0 H0 σ F H x.wd _ fun b F' H' g q => by
    cases b with
    | true => exact q F0 H0 σ F' H' D (x.go g) k r
    | false => exact q F0 H0 σ F' H' D (x.go g) k r
theorem lst_while (I : Nat → AS → LF → Prop) (n0 : Nat) (i0 : I n0 A lf) (h : ∀ m A' l', I m A' l' → EvT K tt A' fun b => if b = true then LSt K w dl n ts A' l' (fun A2 l2 => ∃ m', m' < m ∧ I m' A2 l2) rt else nx A' l') : LSt K w dl n (tWhile tt ts) A lf nx rt := fun F0 H0 σ F H D x k r => by
  refine ⟨fun m σ' H' => ∃ A' F' l', WL K w dl n F0 H0 A' σ' F' H' l' ∧ I m A' l', ⟨n0, A, F, lf, x, i0⟩, ?_⟩
  rintro m σ' H' ⟨A', F', l', x', hI⟩
  refine h m A' l' hI F0 H0 σ' F' H' x'.wd _ fun b F2 H2 g2 q => ?_
  cases b with
  | true =>
    refine ⟨fun σ3 H3 => ∃ m', m' < m ∧ ∃ A' F' l', WL K w dl n F0 H0 A' σ3 F' H3 l' ∧ I m' A' l', fun σ3 H3 q => q, ?_⟩
    exact q F0 H0 σ' F2 H2 _ (x'.go g2) (fun A4 l4 σ4 F4 H4 x4 ⟨m', hl, q⟩ => ⟨m', hl, A4, F4, l4, x4, q⟩) r
  | false => exact k A' l' σ' F2 H2 (x'.go g2) q
/-- d[e] op= i on the first dict -/
theorem lst_aug {k : NK} {a b : Int} {f : Int → Int → Int} (hn : n < 100000) (ok : Okk k) (hk : lf k = some a) (h : EvP K tf A fun m => m = refM dl ∧ EvP K ti A fun kk => kk = dat K k.data ∧ EvP K te A fun m => m = dI K b ∧ nx A (fun j => if j = k then some (f a b) else lf j)) :
    LSt K w dl n (tAugS tf ti te (rNGet w K) (ipI f) (rNSet w K)) A lf nx rt := fun F0 H0 σ F H D x k0 _ => by
  refine h F0 H0 σ F H x.wd _ fun v m F1 H1 g1 p1 ⟨e1, h1⟩ => ?_
  subst e1
  have p1 : v = .ref dl := p1
  subst p1
  have x1 := x.go g1
  refine h1 F0 H0 σ F1 H1 x1.wd _ fun y m2 F2 H2 g2 p2 ⟨e2, h2⟩ => ?_
  subst e2
  have x2 := x1.go g2
  obtain ⟨lk, l1, l2, l3⟩ := x2.net.left
  refine ⟨F2, dl, lk, k, .int a, rfl, ⟨x2.wd.grow.h, l1, Dq.dp _ _ p2, ok⟩, by rw [l3, hk]; rfl, ?_⟩
  refine h2 F0 H0 σ F2 H2 x2.wd _ fun z m3 F3 H3 g3 p3 ⟨e3, q⟩ => ?_
  subst e3
  rw [p_int p3]
  have x3 := x2.go g3
  refine ⟨a, b, rfl, rfl, ?_⟩
  obtain ⟨lk, l1, l2, l3⟩ := x3.net.left
  have hs : (valV lk k).isSome = true := by rw [l3, hk]; rfl
  refine ⟨F3, dl, lk, k, rfl, ⟨x3.wd.grow.h, l1, Dq.dp _ _ (Dq.ex g3.f _ _ p2), ok⟩, x3.net.fl, by omega, fun u nd => ?_⟩
  refine k0 A _ σ F3 _ (x3.step ⟨Ex.refl _, x3.wd.grow.h.mut x3.net.fl, x3.wd.grow.hh.mut x3.net.hl, fun _ z => .inl z⟩ ⟨x3.net.fl, x3.net.hl, _, nd, by rw [putK_len hs]; exact l2, fun j => ?_⟩) q
  rw [valV_putK]
  by_cases e : j = k
  · rw [if_pos e, if_pos e]; rfl
  · rw [if_neg e, if_neg e, l3]
/-- x = self.found_from_start() -/
theorem lst_fnd {C : Addr} {name : Str} {ah : NK → Option (List NK)} {i j : Nat} {pre : List MP → Prop} {post : List MP → Ow → Prop} {E : XK} (hj : A[j]? = some (some (.d (netF K w C dl ah n)))) (hnm : name ≠ "left" ∧ name ≠ "ahead") (hp : pre [netP K w C lf ah n])
    (h : ∀ o, post [netP K w C lf ah n] o → ∃ src m, o = .dct w (datF K src) m ∧ (∀ k d, src k = some d → noL d = true) ∧ nx (A.set i (some (.d (mdM K w (datF K src) m)))) lf) :
    LSt K w dl n (tAsg (tMeth C name (SpR K pre post) [] E (tVar j) tNil) (gName i)) A lf nx rt := fun F0 H0 σ F H D x k0 _ => by
  obtain ⟨v, s, hv⟩ := x.wd.sl j _ hj
  have hv : (netF K w C dl ah n).P F v := hv
  obtain ⟨o, o1, o2, o3, o4, o5⟩ := left_freeze x.net x.wd.grow.h hv
  obtain ⟨a, dx, vs, rfl, hF, hf⟩ := _root_.id hv
  refine ⟨_, s, a, dx, vs, rfl, x.wd.grow.h _ _ hF, fs_none hf ?_, ?_⟩
  · show List.lookup name [(Str.ofString "left", refM dl), (Str.ofString "ahead", aheadM K w ah n)] = none
    rw [List.lookup_cons, List.lookup_cons]
    have b1 : (name == Str.ofString "left") = false := beq_eq_false_iff_ne.mpr hnm.1
    have b2 : (name == Str.ofString "ahead") = false := beq_eq_false_iff_ne.mpr hnm.2
    rw [b1, b2]
    rfl
  refine ⟨upd F dl o, [netP K w C lf ah n], o3, .cons o4 .nil, hp, fun p hh ow F' H' g n1 n2 n3 n4 q => ?_⟩
  obtain ⟨src, m, rfl, hs, r⟩ := h ow q
  have fdl : F' dl = some o := g.f _ _ upd_same
  have hdl : H' dl = some o := g.h _ _ fdl
  have notup : ∀ ys, ¬ Rd F' dl (.tup ys) := fun ys z => by
    refine o5 ys ?_
    unfold Rd at z ⊢
    rw [fdl] at z
    rw [o1]
    exact z
  have g2 : Grow F H (hideA F' dl) H' := Grow.hide x.wd.grow.h x.net.fl o1 g
  unfold OwOk at n4
  obtain ⟨xs, kvs, eh, DD⟩ := n4
  have DD2 := DctAt.hide fdl notup hs DD
  have npd : p ≠ dl := fun z => by rw [z, o1] at n1; cases n1
  have n2' : hideA F' dl p = none := by rw [hide_ne npd]; exact n2
  obtain ⟨z1, z2, z3⟩ := own_frz (K := K) (o := .dct w (datF K src) m) g2.h n2' n3 (by unfold OwOk; exact ⟨xs, kvs, eh, DD2⟩)
  have g3 : Grow F H (upd (hideA F' dl) p hh) H' := ⟨g2.f.trans z1, z2, g2.hh, fun b r => by
    by_cases e : b = p
    · exact .inr (e ▸ n1)
    · rw [upd_ne e] at r
      exact g2.new b r⟩
  exact k0 _ lf _ _ H' ((x.go g3).set (i := i) z3) r
end
/-! ### push -/
def SpPush (K : PySem.W.Frag) (w : World) (C : Addr) (pre : LF → (NK → Option (List NK)) → Prop) (post : LF → (NK → Option (List NK)) → LF → Bool → Prop) : Sp := fun vs H Q _ => ∃ H0 F x dl lf ah n, vs = [.ref x] ∧ Ex F H ∧ Ex H0 H ∧ (netF K w C dl ah n).P F (.ref x) ∧ LeftH K w H0 F H dl lf n ∧ n < 100000 ∧ pre lf ah ∧
  ∀ b lf' F' H', Grow F H0 F' H' → LeftH K w H0 F' H' dl lf' n → post lf ah lf' b → Q (.bl b) H'
section
variable {P : Program} {w : World} {K : PySem.W.Frag} {mg : Str → Option Value} {base : Heap}
theorem push_ok {x qual : Str} {st : Stmt} {f : Addr} {fd : FuncData} {N ps : List Str} {k : Nat} {C : Addr} {pre : LF → (NK → Option (List NK)) → Prop} {post : LF → (NK → Option (List NK)) → LF → Bool → Prop} (F : Fun K x qual st f fd) (S : FnScope N ps (defScope st)) (hp : ps.length = 1)
    (h : ∀ (cdv : Value) (A : Around) (outer : List Env) (s : Shared) (H : Hp) (E : XK), Room k (A.deeper (envOfC qual (defScope st) s.heap.objs.size f cdv)) →
      ∃ t, PSs (cxOf CX0 P w K mg base N qual (defScope st) f cdv A outer s H E).nox (defBody st) t ∧
        ∀ dl lf ah n, n < 100000 → pre lf ah → LSt K w dl n t (ent N [netF K w C dl ah n]) lf (fun _ _ => False) fun m lf' => ∃ b, m = dB K b ∧ post lf ah lf' b) : FnOk P w K mg base CX0 (k + 1) f fd ps (SpPush K w C pre post) := by
  refine F.ok S (fun vs H Q E ⟨H0, F, x, dl, lf, ah, n, e, _⟩ => by rw [e, hp]; rfl) (fun cdv A outer s H vs Q E hr ⟨H0, F, x, dl, lf, ah, n, e, ef, e0, hx, hl, hn, pr0, k0⟩ => ?_)
  obtain ⟨t, ht, ha⟩ := h cdv A outer s H E hr
  refine ⟨t, ht, ?_⟩
  subst e
  have w0 := wd_ent (K := K) (N := N) ef (.cons hx .nil : MPs F [.ref x] [netF K w C dl ah n])
  refine ha dl lf ah n hn pr0 F H0 _ F H _ ⟨⟨⟨Ex.refl F, ef, e0, fun _ z => .inl z⟩, w0.len, fun j y z => ?_, fun j l o o' a z => absurd z (ent_noown j o)⟩, ent_noown, hl⟩ (fun A' l' σ' F' H' x' z => z.elim) fun v m lf' F' H' g nn p ⟨b, eb, r⟩ => ?_
  · obtain ⟨v, s1, s2⟩ := w0.sl j y z
    refine ⟨v, s1, ?_⟩
    cases y with
    | d m => exact s2
    | own o => exact absurd z (ent_noown j o)
  · subst eb
    rw [p_bl p]
    exact k0 b lf' F' H' g nn r
end
/-! ### the statements of apart that touch the net -/
section
variable {K : PySem.W.Frag} {w : World} {dl : Addr} {n : Nat} {A : AS} {lf : LF} {E : AE}
/-- net = Net(..); while net.push(): pass; then ts, where the net is frozen whole -/
theorem ast_net {C : Addr} {i : Nat} {pre : List MP → Prop} {posti : List MP → NetN → Prop} {prep : LF → (NK → Option (List NK)) → Prop} {postp : LF → (NK → Option (List NK)) → LF → Bool → Prop} {tas : TA} {X1 X2 : XK} {ts : TS}
    (hA : ∀ (j : Nat) (o : Ow), A[j]? ≠ some (some (.own o))) (hi : i < A.length)
    (h : EvA K tas A fun ms => pre ms ∧ ∀ N, posti ms N → N.n < 100000 ∧ ∃ (I : Nat → LF → Prop) (n0 : Nat), I n0 N.lf ∧ (∀ m l, I m l → prep l N.ah ∧ ∀ l' b, postp l N.ah l' b → if b = true then ∃ m', m' < m ∧ I m' l' else ASt K ts (A.set i (some (.d (netP K w C l' N.ah N.n)))) E)) :
    ASt K (tSeq (tAsg (tMake C (SpNet K w C pre posti) [] X1 tas) (gName i)) (tSeq (tWhile (tB (tMeth C "push" (SpPush K w C prep postp) [] X2 (tVar i) tNil)) tNext) ts)) A E := fun F0 H0 σ F H D wd ok => by
  refine h F0 H0 σ F H wd _ fun xs ms F1 H1 g1 p1 ⟨hp, hq⟩ => fun x dx nx nd nex => ?_
  obtain ⟨fx, ex⟩ := make_pre (C := C) nx nd g1.h
  have wd1 := wd.go g1
  have eh : hideA (upd (upd H1 dx (.own x)) x (.ins C dx [])) x = upd H1 dx (.own x) := by
    funext a
    by_cases z : a = x
    · rw [z, hide_same, upd_ne nex.symm, nx]
    · rw [hide_ne z, upd_ne z]
  refine ⟨F1, ms, x, dx, xs, by rw [List.append_nil], upd_same, fx, ex, p1, hp, fun F2 H2 dl da N g2 hN hI pN => ⟨rfl, ?_⟩⟩
  rw [eh] at g2 hN
  obtain ⟨hn, I, n0, i0, turn⟩ := hq N pN
  obtain ⟨F3, g3, nf, lh⟩ := net_freeze hN g2.h g2.hh hI
  -- the heap ahead of the instance, its dict's object forgotten
  have h0 : ∀ a, upd H1 dx (.own x) a = none → H1 a = none := fun a z => by
    by_cases e : a = dx
    · rw [e]; exact nd
    · rw [upd_ne e] at z; exact z
  have g13 : Grow F1 H1 F3 H2 := by
    refine ⟨g2.f.trans g3.f, g3.h, fun a u z => g2.hh a u (by rw [upd_ne (ne_of_none z nd)]; exact z), fun a z => ?_⟩
    rcases g3.new a z with r | r
    · rcases g2.new a r with q | q
      · exact .inl q
      · exact .inr (h0 a q)
    · exact .inr (h0 a r)
  have noset : ∀ (j : Nat) (o : Ow) (m : MP), (A.set i (some (.d m)))[j]? ≠ some (some (.own o)) := fun j o m e => by
    rcases get_set e with ⟨_, q, _⟩ | ⟨_, q⟩
    · cases q
    · exact hA j o q
  have hl0 : H0 dl = none := wd1.grow.hh.free (h0 dl lh.hl)
  have x3 : WL K w dl N.n F0 H0 (A.set i (some (.d (netF K w C dl N.ah N.n)))) (σ.set i (some (.ref x))) F3 H2 N.lf := ⟨(wd1.go g13).set nf, fun j o => noset j o _, lh.fl, hl0, lh.left⟩
  refine ⟨fun m σ' H' => σ' = σ.set i (some (.ref x)) ∧ ∃ F' l', WL K w dl N.n F0 H0 (A.set i (some (.d (netF K w C dl N.ah N.n)))) σ' F' H' l' ∧ I m l', ⟨n0, rfl, F3, N.lf, x3, i0⟩, ?_⟩
  rintro m σ' H' ⟨rfl, F', l', x', hI'⟩
  obtain ⟨pr0, pst⟩ := turn m l' hI'
  have hsl : (A.set i (some (.d (netF K w C dl N.ah N.n))))[i]? = some (some (.d (netF K w C dl N.ah N.n))) := List.getElem?_set_self hi
  obtain ⟨v, sv, pv⟩ := x'.wd.sl i _ hsl
  have pv : (netF K w C dl N.ah N.n).P F' v := pv
  have his : i < σ.length := by rw [← wd.len]; exact hi
  rw [List.getElem?_set_self his] at sv
  cases sv
  obtain ⟨a, dx', vs, ea, hF, hf⟩ := _root_.id pv
  cases ea
  refine ⟨.ref x, List.getElem?_set_self his, x, dx', vs, rfl, x'.wd.grow.h _ _ hF, fs_none hf rfl, ?_⟩
  refine ⟨H0, F', x, dl, l', N.ah, N.n, rfl, x'.wd.grow.h, x'.wd.grow.hh, pv, x'.net, hn, pr0, fun b l2 F4 H4 g4 lh4 post => ⟨b, rfl, ?_⟩⟩
  have q := pst l2 b post
  have x4 := x'.step g4 lh4
  cases b with
  | true =>
    obtain ⟨m', hm, hI4⟩ := q
    exact ⟨fun σ5 H5 => ∃ m', m' < m ∧ σ5 = σ.set i (some (.ref x)) ∧ ∃ F' l', WL K w dl N.n F0 H0 (A.set i (some (.d (netF K w C dl N.ah N.n)))) σ5 F' H5 l' ∧ I m' l', fun _ _ z => z, m', hm, rfl, F4, l2, x4, hI4⟩
  | false =>
    have q : ASt K ts (A.set i (some (.d (netP K w C l2 N.ah N.n)))) E := q
    have pv4 := (netF K w C dl N.ah N.n).mono g4.f pv
    obtain ⟨o, o1, o2, o3, o4, _⟩ := left_freeze x4.net x4.wd.grow.h pv4
    have g5 : Grow F0 H0 (upd F4 dl o) H4 := ⟨x4.wd.grow.f.trans o2, o3, x4.wd.grow.hh, fun b r => by
      by_cases e : b = dl
      · exact .inr (e ▸ x4.net.hl)
      · rw [upd_ne e] at r
        exact x4.wd.grow.new b r⟩
    refine q F0 H0 _ (upd F4 dl o) H4 D ⟨g5, by rw [List.length_set, List.length_set]; exact wd.len, fun j y e => ?_, fun j l o o' p e => absurd e (noset j o _)⟩ ok
    rcases get_set e with ⟨rfl, q, hl⟩ | ⟨ne, q⟩
    · cases q
      exact ⟨.ref x, List.getElem?_set_self his, o4⟩
    · obtain ⟨u, s1, s2⟩ := x4.wd.sl j y (by rw [List.getElem?_set_ne ne]; exact q)
      refine ⟨u, s1, ?_⟩
      cases y with
      | d m => exact m.mono o2 s2
      | own ow => exact absurd q (hA j ow)
end
end Wp
/-! Promises told by an index: the caller says which. -/
namespace Wp
open PySem PySem.Spec PyProof.Rows L2
theorem fn_ex {ι : Type} {P : Program} {w : World} {K : PySem.W.Frag} {mg : Str → Option Value} {base : Heap} {CX : CXT} {k : Nat} {f : Addr} {fd : FuncData} {ps : List Str} {sp : ι → Sp} (h : ∀ i, FnOk P w K mg base CX k f fd ps (sp i)) :
    FnOk P w K mg base CX k f fd ps (fun vs H Q E => ∃ i, sp i vs H Q E) :=
  ⟨fun vs H Q E ⟨i, q⟩ => (h i).len vs H Q E q, fun A outer s H args us vs Q E hr he hb hv ⟨i, q⟩ => (h i).run A outer s H args us vs Q E hr he hb hv q⟩
def SpQ {ι : Type} (arg : ι → List MP) (post : ι → MP → Prop) : Sp := fun vs H Q E => ∃ i, SpP (fun ms => ms = arg i) (fun _ m => post i m) vs H Q E
def SpIQ {ι : Type} (C : Addr) (arg : ι → List MP) (post : ι → List (Str × MP) → Prop) : Sp := fun vs H Q E => ∃ i, SpI C (fun ms => ms = arg i) (fun _ m => post i m) vs H Q E
def SpRQ {ι : Type} (K : PySem.W.Frag) (arg : ι → List MP) (post : ι → Ow → Prop) : Sp := fun vs H Q E => ∃ i, SpR K (fun ms => ms = arg i) (fun _ m => post i m) vs H Q E
def SpNetQ {ι : Type} (K : PySem.W.Frag) (w : World) (C : Addr) (arg : ι → List MP) (post : ι → NetN → Prop) : Sp := fun vs H Q E => ∃ i, SpNet K w C (fun ms => ms = arg i) (fun _ m => post i m) vs H Q E
section
variable {ι : Type} {P : Program} {w : World} {K : PySem.W.Frag} {mg : Str → Option Value} {base : Heap} {arg : ι → List MP}
theorem fun_okQ {post : ι → MP → Prop} {x qual : Str} {st : Stmt} {f : Addr} {fd : FuncData} {N ps : List Str} {k : Nat} (F : Fun K x qual st f fd) (S : FnScope N ps (defScope st)) (len : ∀ i, (arg i).length = ps.length)
    (h : ∀ (cdv : Value) (A : Around) (outer : List Env) (s : Shared) (H : Hp) (E : XK), Room k (A.deeper (envOfC qual (defScope st) s.heap.objs.size f cdv)) →
      ∃ t, PSs (cxOf CX0 P w K mg base N qual (defScope st) f cdv A outer s H E).nox (defBody st) t ∧ ∀ i, ASt K t (ent N (arg i)) { nx := fun _ => post i (dN K), rt := post i }) : FnOk P w K mg base CX0 (k + 1) f fd ps (SpQ arg post) :=
  fn_ex fun i => fun_ok F S (fun ms e => e ▸ len i) fun cdv A outer s H E hr => by
    obtain ⟨t, ht, ha⟩ := h cdv A outer s H E hr
    exact ⟨t, ht, fun ms e => by subst e; exact ha i⟩
theorem fund_okQ {post : ι → MP → Prop} {x qual : Str} {params : Arguments} {body : List Stmt} {scope : Scope} {dvs : List V} {kws : List (Str × V)} {f : Addr} {fd : FuncData} {N ps : List Str} {k : Nat} (F : FunD K x qual params body scope dvs kws f fd) (S : FnScope N ps scope) (len : ∀ i, (arg i).length = ps.length)
    (h : ∀ (cdv : Value) (A : Around) (outer : List Env) (s : Shared) (H : Hp) (E : XK), Room k (A.deeper (envOfC qual scope s.heap.objs.size f cdv)) →
      ∃ t, PSs (cxOf CX0 P w K mg base N qual scope f cdv A outer s H E).nox body t ∧ ∀ i, ASt K t (ent N (arg i)) { nx := fun _ => post i (dN K), rt := post i }) : FnOk P w K mg base CX0 (k + 1) f fd ps (SpQ arg post) :=
  fn_ex fun i => fund_ok F S (fun ms e => e ▸ len i) fun cdv A outer s H E hr => by
    obtain ⟨t, ht, ha⟩ := h cdv A outer s H E hr
    exact ⟨t, ht, fun ms e => by subst e; exact ha i⟩
theorem init_okQ {post : ι → List (Str × MP) → Prop} {qual : Str} {params : Arguments} {body : List Stmt} {scope : Scope} {dvs : List V} {kws : List (Str × V)} {f : Addr} {fd : FuncData} {N ps : List Str} {k : Nat} {C : Addr}
    (F : FunD K "__init__" qual params body scope dvs kws f fd) (S : FnScope N ps scope) (hN : N.length ≠ 0) (len : ∀ i, (arg i).length + 1 = ps.length)
    (h : ∀ (cdv : Value) (A : Around) (outer : List Env) (s : Shared) (H : Hp) (E : XK), Room k (A.deeper (envOfC qual scope s.heap.objs.size f cdv)) →
      ∃ t, PSs (cxOf CX0 P w K mg base N qual scope f cdv A outer s H E).nox body t ∧ ∀ i x, ASt K t (entI N x C (arg i)) { nx := fun A' => ∃ (j : Nat) (fs : List (Str × MP)), A'[j]? = some (some (Sl.own (.ins x C fs))) ∧ post i fs, rt := fun _ => False }) : FnOk P w K mg base CX0 (k + 1) f fd ps (SpIQ C arg post) :=
  fn_ex fun i => init_ok F S hN (fun ms e => e ▸ len i) fun cdv A outer s H E hr => by
    obtain ⟨t, ht, ha⟩ := h cdv A outer s H E hr
    exact ⟨t, ht, fun x ms e => by subst e; exact ha i x⟩
theorem fun_okRQ {post : ι → Ow → Prop} {x qual : Str} {st : Stmt} {f : Addr} {fd : FuncData} {N ps : List Str} {k : Nat} (F : Fun K x qual st f fd) (S : FnScope N ps (defScope st)) (len : ∀ i, (arg i).length = ps.length)
    (h : ∀ (cdv : Value) (A : Around) (outer : List Env) (s : Shared) (H : Hp) (E : XK), Room k (A.deeper (envOfC qual (defScope st) s.heap.objs.size f cdv)) →
      ∃ t, PSs (cxOf CX0 P w K mg base N qual (defScope st) f cdv A outer s H E).nox (defBody st) t ∧ ∀ i, ASt K t (ent N (arg i)) { nx := fun _ => False, rt := fun _ => False, rn := post i }) : FnOk P w K mg base CX0 (k + 1) f fd ps (SpRQ K arg post) :=
  fn_ex fun i => fun_okR F S (fun ms e => e ▸ len i) fun cdv A outer s H E hr => by
    obtain ⟨t, ht, ha⟩ := h cdv A outer s H E hr
    exact ⟨t, ht, fun ms e => by subst e; exact ha i⟩
theorem netinit_okQ {post : ι → NetN → Prop} {qual : Str} {params : Arguments} {body : List Stmt} {scope : Scope} {dvs : List V} {kws : List (Str × V)} {f : Addr} {fd : FuncData} {N ps : List Str} {k : Nat} {C : Addr}
    (F : FunD K "__init__" qual params body scope dvs kws f fd) (S : FnScope N ps scope) (hN : N.length ≠ 0) (len : ∀ i, (arg i).length + 1 = ps.length) (hc : Cls K C) (hl : NoAttr K C "left") (ha : NoAttr K C "ahead")
    (h : ∀ (cdv : Value) (A : Around) (outer : List Env) (s : Shared) (H : Hp) (E : XK), Room k (A.deeper (envOfC qual scope s.heap.objs.size f cdv)) →
      ∃ t, PSs (cxOf CX0 P w K mg base N qual scope f cdv A outer s H E).nox body (tSeq (sFld K (tVar 0) (tNew w) "left") (tSeq (sFld K (tVar 0) (tNew w) "ahead") t)) ∧
        ∀ i dl da, NSt K w dl da t (some (.d (netI C dl da)) :: ent N.tail (arg i)) N0 fun _ N' => post i N') : FnOk P w K mg base CX0 (k + 1) f fd ps (SpNetQ K w C arg post) :=
  fn_ex fun i => netinit_ok F S hN (fun ms e => e ▸ len i) hc hl ha fun cdv A outer s H E hr => by
    obtain ⟨t, ht, hT⟩ := h cdv A outer s H E hr
    exact ⟨t, ht, fun dl da ms e => by subst e; exact hT i dl da⟩
end
section
variable {ι : Type} {K : PySem.W.Frag} {te : TE} {tas : TA} {A : AS} {P : MP → Prop} {arg : ι → List MP} {E : XK}
theorem evp_callQ {post : ι → MP → Prop} (h : EvA K tas A fun ms => ∃ i, ms = arg i ∧ ∀ m, post i m → P m) : EvP K (tCall (SpQ arg post) [] E tas) A P := fun F0 H0 σ F H w Q k => by
  refine h F0 H0 σ F H w _ fun xs ms F1 H1 g1 p1 ⟨i, e, hq⟩ => ?_
  refine ⟨i, F1, ms, g1.h, ?_, e, fun v m F' H' g p r => k v m F' H' (g1.trans g) p (hq m r)⟩
  rw [List.append_nil]
  exact p1
theorem evp_methQ {C : Addr} {name : Str} {post : ι → MP → Prop} (h : EvP K te A fun m => InsOk C name m ∧ EvA K tas A fun ms => ∃ i, m :: ms = arg i ∧ ∀ r, post i r → P r) : EvP K (tMeth C name (SpQ arg post) [] E te tas) A P := fun F0 H0 σ F H w Q k => by
  refine h F0 H0 σ F H w _ fun x m F1 H1 g1 p1 ⟨hi, h1⟩ => ?_
  obtain ⟨a, dx, fs, rfl, ha, hl⟩ := hi F1 x p1
  refine ⟨a, dx, fs, rfl, g1.h _ _ ha, hl, ?_⟩
  refine h1 F0 H0 σ F1 H1 (w.go g1) _ fun xs ms F2 H2 g2 p2 ⟨i, e, hq⟩ => ?_
  refine ⟨i, F2, m :: ms, g2.h, ?_, e, fun v r F' H' g p q => k v r F' H' (g1.trans (g2.trans g)) p (hq r q)⟩
  rw [List.append_nil]
  exact .cons (m.mono g2.f p1) p2
theorem evp_propQ {C : Addr} {name : Str} {post : ι → MP → Prop} (h : EvP K te A fun m => InsOk C name m ∧ ∃ i, [m] = arg i ∧ ∀ r, post i r → P r) : EvP K (tProp C (SpQ arg post) [] E te) A P := fun F0 H0 σ F H w Q k => by
  refine h F0 H0 σ F H w _ fun x m F1 H1 g1 p1 ⟨hi, i, e, hq⟩ => ?_
  obtain ⟨a, dx, fs, rfl, ha, hl⟩ := hi F1 x p1
  refine ⟨a, dx, fs, rfl, g1.h _ _ ha, ?_⟩
  exact ⟨i, F1, [m], g1.h, .cons p1 .nil, e, fun v r F' H' g p q => k v r F' H' (g1.trans g) p (hq r q)⟩
theorem evp_callnQ {n m : Nat} {gV : List V → List V → List V} {tk : TA} {post : ι → MP → Prop} (gM : List MP → List MP → List MP) (hg : ∀ F vs ms us ns, vs.length = n → us.length = m → MPs F vs ms → MPs F us ns → MPs F (gV vs us) (gM ms ns))
    (h : EvA K tas A fun ms => EvA K tk A fun ns => ms.length = n ∧ ns.length = m ∧ ∃ i, gM ms ns = arg i ∧ ∀ r, post i r → P r) : EvP K (tCallN n m (SpQ arg post) gV E tas tk) A P := fun F0 H0 σ F H w Q k => by
  refine h F0 H0 σ F H w _ fun xs ms F1 H1 g1 p1 h1 => ?_
  refine h1 F0 H0 σ F1 H1 (w.go g1) _ fun ys ns F2 H2 g2 p2 ⟨l1, l2, i, e, hq⟩ => ?_
  have n1 := (mps_len p1).trans l1
  have n2 := (mps_len p2).trans l2
  refine ⟨n1, n2, ?_⟩
  exact ⟨i, F2, gM ms ns, g2.h, hg _ _ _ _ _ n1 n2 (MPs.grow g2.f p1) p2, e, fun v r F' H' g p q => k v r F' H' (g1.trans (g2.trans g)) p (hq r q)⟩
theorem evp_makeQ {C : Addr} {posti : ι → List (Str × MP) → Prop} (h : EvA K tas A fun ms => ∃ i, ms = arg i ∧ ∀ fs, posti i fs → P (insM C fs)) : EvP K (tMake C (SpIQ C arg posti) [] E tas) A P := fun F0 H0 σ F H w Q k => by
  refine h F0 H0 σ F H w _ fun xs ms F1 H1 g1 p1 ⟨i, e, hq⟩ => fun x dx nx nd nex => ?_
  obtain ⟨fx, ex⟩ := make_pre (C := C) nx nd g1.h
  refine ⟨i, F1, ms, x, dx, xs, by rw [List.append_nil], upd_same, fx, ex, p1, e, fun F' H' dx' vfs fs g hx f' hf r => ⟨rfl, ?_⟩⟩
  have gg := make_grow nx nd g1.h f' g hx
  exact k (.ref x) (insM C fs) _ _ (g1.trans gg) ⟨x, dx', vfs, rfl, upd_same, hf.ex (Ex.new f')⟩ (hq fs r)
theorem evp_makekQ {C : Addr} {m : Nat} {gV : List V → List V → List V} {tk : TA} {posti : ι → List (Str × MP) → Prop} (hg : ∀ x us, us.length = m → gV [x] us = x :: us)
    (h : EvA K tk A fun ms => ms.length = m ∧ ∃ i, ms = arg i ∧ ∀ fs, posti i fs → P (insM C fs)) : EvP K (tMakeK C 0 m (SpIQ C arg posti) gV E tNil tk) A P := fun F0 H0 σ F H w Q k => by
  refine h F0 H0 σ F H w _ fun xs ms F1 H1 g1 p1 ⟨l1, i, e, hq⟩ => ⟨rfl, (mps_len p1).trans l1, fun x dx nx nd nex => ?_⟩
  obtain ⟨fx, ex⟩ := make_pre (C := C) nx nd g1.h
  refine ⟨i, F1, ms, x, dx, xs, hg _ _ ((mps_len p1).trans l1), upd_same, fx, ex, p1, e, fun F' H' dx' vfs fs g hx f' hf r => ⟨rfl, ?_⟩⟩
  have gg := make_grow nx nd g1.h f' g hx
  exact k (.ref x) (insM C fs) _ _ (g1.trans gg) ⟨x, dx', vfs, rfl, upd_same, hf.ex (Ex.new f')⟩ (hq fs r)
theorem evp_methRQ {C : Addr} {name : Str} {post : ι → Ow → Prop} (h : EvP K te A fun m => InsOk C name m ∧ EvA K tas A fun ms => ∃ i, m :: ms = arg i ∧ ∀ o, post i o → P (owM K o)) : EvP K (tMeth C name (SpRQ K arg post) [] E te tas) A P := fun F0 H0 σ F H w Q k => by
  refine h F0 H0 σ F H w _ fun x m F1 H1 g1 p1 ⟨hi, h1⟩ => ?_
  obtain ⟨a, dx, fs, rfl, ha, hl⟩ := hi F1 x p1
  refine ⟨a, dx, fs, rfl, g1.h _ _ ha, hl, ?_⟩
  refine h1 F0 H0 σ F1 H1 (w.go g1) _ fun xs ms F2 H2 g2 p2 ⟨i, e, hq⟩ => ?_
  refine ⟨i, F2, m :: ms, g2.h, ?_, e, fun p h o F' H' g n1 n2 n3 n4 q => ?_⟩
  · rw [List.append_nil]
    exact .cons (m.mono g2.f p1) p2
  · obtain ⟨z1, z2, z3⟩ := own_frz g.h n2 n3 n4
    have g12 := g1.trans g2
    refine k _ (owM K o) _ H' (g12.trans ⟨g.f.trans z1, z2, g.hh, fun a r => ?_⟩) z3 (hq o q)
    by_cases e : a = p
    · exact .inr (e ▸ n1)
    · rw [upd_ne e] at r
      exact g.new a r
theorem lst_fndQ {w : World} {dl : Addr} {n : Nat} {lf : LF} {nx : AS → LF → Prop} {rt : MP → LF → Prop} {C : Addr} {name : Str} {ah : NK → Option (List NK)} {i j : Nat} {post : ι → Ow → Prop} (hj : A[j]? = some (some (.d (netF K w C dl ah n)))) (hnm : name ≠ "left" ∧ name ≠ "ahead") (a : ι) (hp : [netP K w C lf ah n] = arg a)
    (h : ∀ o, post a o → ∃ src m, o = .dct w (datF K src) m ∧ (∀ k d, src k = some d → noL d = true) ∧ nx (A.set i (some (.d (mdM K w (datF K src) m)))) lf) :
    LSt K w dl n (tAsg (tMeth C name (SpRQ K arg post) [] E (tVar j) tNil) (gName i)) A lf nx rt := fun F0 H0 σ F H D x k0 r0 => by
  have key := lst_fnd (K := K) (w := w) (dl := dl) (n := n) (A := A) (lf := lf) (nx := nx) (rt := rt) (C := C) (name := name) (ah := ah) (i := i) (j := j) (pre := fun ms => ms = arg a) (post := fun _ m => post a m) (E := E) hj hnm hp h F0 H0 σ F H D x k0 r0
  obtain ⟨v, s, b, dx, fs, e1, e2, e3, e4⟩ := key
  exact ⟨v, s, b, dx, fs, e1, e2, e3, a, e4⟩
theorem ast_netQ {w : World} {EE : AE} {C : Addr} {i : Nat} {posti : ι → NetN → Prop} {prep : LF → (NK → Option (List NK)) → Prop} {postp : LF → (NK → Option (List NK)) → LF → Bool → Prop} {X1 X2 : XK} {ts : TS}
    (hA : ∀ (j : Nat) (o : Ow), A[j]? ≠ some (some (.own o))) (hi : i < A.length)
    (h : EvA K tas A fun ms => ∃ a, ms = arg a ∧ ∀ N, posti a N → N.n < 100000 ∧ ∃ (I : Nat → LF → Prop) (n0 : Nat), I n0 N.lf ∧ (∀ m l, I m l → prep l N.ah ∧ ∀ l' b, postp l N.ah l' b → if b = true then ∃ m', m' < m ∧ I m' l' else ASt K ts (A.set i (some (.d (netP K w C l' N.ah N.n)))) EE)) :
    ASt K (tSeq (tAsg (tMake C (SpNetQ K w C arg posti) [] X1 tas) (gName i)) (tSeq (tWhile (tB (tMeth C "push" (SpPush K w C prep postp) [] X2 (tVar i) tNil)) tNext) ts)) A EE := fun F0 H0 σ F H D wd ok => by
  refine h F0 H0 σ F H wd _ fun xs ms F1 H1 g1 p1 ⟨a0, hp, hq⟩ => fun x dx nx nd nex => ?_
  obtain ⟨fx, ex⟩ := make_pre (C := C) nx nd g1.h
  have wd1 := wd.go g1
  have eh : hideA (upd (upd H1 dx (.own x)) x (.ins C dx [])) x = upd H1 dx (.own x) := by
    funext a
    by_cases z : a = x
    · rw [z, hide_same, upd_ne nex.symm, nx]
    · rw [hide_ne z, upd_ne z]
  refine ⟨a0, F1, ms, x, dx, xs, by rw [List.append_nil], upd_same, fx, ex, p1, hp, fun F2 H2 dl da N g2 hN hI pN => ⟨rfl, ?_⟩⟩
  rw [eh] at g2 hN
  obtain ⟨hn, I, n0, i0, turn⟩ := hq N pN
  obtain ⟨F3, g3, nf, lh⟩ := net_freeze hN g2.h g2.hh hI
  -- the heap ahead of the instance, its dict's object forgotten
  have h0 : ∀ a, upd H1 dx (.own x) a = none → H1 a = none := fun a z => by
    by_cases e : a = dx
    · rw [e]; exact nd
    · rw [upd_ne e] at z; exact z
  have g13 : Grow F1 H1 F3 H2 := by
    refine ⟨g2.f.trans g3.f, g3.h, fun a u z => g2.hh a u (by rw [upd_ne (ne_of_none z nd)]; exact z), fun a z => ?_⟩
    rcases g3.new a z with r | r
    · rcases g2.new a r with q | q
      · exact .inl q
      · exact .inr (h0 a q)
    · exact .inr (h0 a r)
  have noset : ∀ (j : Nat) (o : Ow) (m : MP), (A.set i (some (.d m)))[j]? ≠ some (some (.own o)) := fun j o m e => by
    rcases get_set e with ⟨_, q, _⟩ | ⟨_, q⟩
    · cases q
    · exact hA j o q
  have hl0 : H0 dl = none := wd1.grow.hh.free (h0 dl lh.hl)
  have x3 : WL K w dl N.n F0 H0 (A.set i (some (.d (netF K w C dl N.ah N.n)))) (σ.set i (some (.ref x))) F3 H2 N.lf := ⟨(wd1.go g13).set nf, fun j o => noset j o _, lh.fl, hl0, lh.left⟩
  refine ⟨fun m σ' H' => σ' = σ.set i (some (.ref x)) ∧ ∃ F' l', WL K w dl N.n F0 H0 (A.set i (some (.d (netF K w C dl N.ah N.n)))) σ' F' H' l' ∧ I m l', ⟨n0, rfl, F3, N.lf, x3, i0⟩, ?_⟩
  rintro m σ' H' ⟨rfl, F', l', x', hI'⟩
  obtain ⟨pr0, pst⟩ := turn m l' hI'
  have hsl : (A.set i (some (.d (netF K w C dl N.ah N.n))))[i]? = some (some (.d (netF K w C dl N.ah N.n))) := List.getElem?_set_self hi
  obtain ⟨v, sv, pv⟩ := x'.wd.sl i _ hsl
  have pv : (netF K w C dl N.ah N.n).P F' v := pv
  have his : i < σ.length := by rw [← wd.len]; exact hi
  rw [List.getElem?_set_self his] at sv
  cases sv
  obtain ⟨a, dx', vs, ea, hF, hf⟩ := _root_.id pv
  cases ea
  refine ⟨.ref x, List.getElem?_set_self his, x, dx', vs, rfl, x'.wd.grow.h _ _ hF, fs_none hf rfl, ?_⟩
  refine ⟨H0, F', x, dl, l', N.ah, N.n, rfl, x'.wd.grow.h, x'.wd.grow.hh, pv, x'.net, hn, pr0, fun b l2 F4 H4 g4 lh4 post => ⟨b, rfl, ?_⟩⟩
  have q := pst l2 b post
  have x4 := x'.step g4 lh4
  cases b with
  | true =>
    obtain ⟨m', hm, hI4⟩ := q
    exact ⟨fun σ5 H5 => ∃ m', m' < m ∧ σ5 = σ.set i (some (.ref x)) ∧ ∃ F' l', WL K w dl N.n F0 H0 (A.set i (some (.d (netF K w C dl N.ah N.n)))) σ5 F' H5 l' ∧ I m' l', fun _ _ z => z, m', hm, rfl, F4, l2, x4, hI4⟩
  | false =>
    have q : ASt K ts (A.set i (some (.d (netP K w C l2 N.ah N.n)))) EE := q
    have pv4 := (netF K w C dl N.ah N.n).mono g4.f pv
    obtain ⟨o, o1, o2, o3, o4, _⟩ := left_freeze x4.net x4.wd.grow.h pv4
    have g5 : Grow F0 H0 (upd F4 dl o) H4 := ⟨x4.wd.grow.f.trans o2, o3, x4.wd.grow.hh, fun b r => by
      by_cases e : b = dl
      · exact .inr (e ▸ x4.net.hl)
      · rw [upd_ne e] at r
        exact x4.wd.grow.new b r⟩
    refine q F0 H0 _ (upd F4 dl o) H4 D ⟨g5, by rw [List.length_set, List.length_set]; exact wd.len, fun j y e => ?_, fun j l o o' p e => absurd e (noset j o _)⟩ ok
    rcases get_set e with ⟨rfl, q, hl⟩ | ⟨ne, q⟩
    · cases q
      exact ⟨.ref x, List.getElem?_set_self his, o4⟩
    · obtain ⟨u, s1, s2⟩ := x4.wd.sl j y (by rw [List.getElem?_set_ne ne]; exact q)
      refine ⟨u, s1, ?_⟩
      cases y with
      | d m => exact m.mono o2 s2
      | own ow => exact absurd q (hA j ow)
end
end Wp
/-! What the program's top has left; calls with keywords; what is told of a chart. -/
namespace Wp
open PySem PySem.Spec PyProof.Rows L2
def top (i : Nat) : Stmt := PySem.Challenge.pw_waypapers_k42_whole_every_way_is_cut.main.body.getD i (.Pass ⟨0, 0, 0, 0⟩)
/-! ### the facts -/
structure Txt (K : PySem.W.Frag) (mg : Str → Option Value) (CM CN CA : Addr) : Prop where
  b_len : mg "len" = none
  b_abs : mg "abs" = none
  b_min : mg "min" = none
  b_max : mg "max" = none
  b_all : mg "all" = none
  b_any : mg "any" = none
  b_sorted : mg "sorted" = none
  b_int : mg "int" = none
  b_tuple : mg "tuple" = none
  b_range : mg "range" = none
  b_enumerate : mg "enumerate" = none
  g_MOST_NAME_CHARS : ∃ u, mg "MOST_NAME_CHARS" = some u ∧ RelV (.int 12) u
  g_MOST_DAY : ∃ u, mg "MOST_DAY" = some u ∧ RelV (.int 1440) u
  g_MOST_PLACES : ∃ u, mg "MOST_PLACES" = some u ∧ RelV (.int 30) u
  g_MOST_KINDS : ∃ u, mg "MOST_KINDS" = some u ∧ RelV (.int 4) u
  g_MOST_ROADS : ∃ u, mg "MOST_ROADS" = some u ∧ RelV (.int 60) u
  g_MOST_BARS : ∃ u, mg "MOST_BARS" = some u ∧ RelV (.int 40) u
  g_MOST_MINUTES : ∃ u, mg "MOST_MINUTES" = some u ∧ RelV (.int 1000) u
  g_MOST_HOURS : ∃ u, mg "MOST_HOURS" = some u ∧ RelV (.int 4) u
  g_ROAD_PARTS : ∃ u, mg "ROAD_PARTS" = some u ∧ RelV (.int 6) u
  g_NAME_CHARS : ∃ u, mg "NAME_CHARS" = some u ∧ RelV (.str "abcdefghijklmnopqrstuvwxyz0123456789") u
  clM : Cls K CM
  clN : Cls K CN
  clA : Cls K CA
  m_day : NoAttr K CM "day"
  m_places : NoAttr K CM "places"
  m_kinds : NoAttr K CM "kinds"
  m_roads : NoAttr K CM "roads"
  m_bars : NoAttr K CM "bars"
  n_left : NoAttr K CN "left"
  n_ahead : NoAttr K CN "ahead"
  a_routes : NoAttr K CA "routes"
  a_cut : NoAttr K CA "cut"
/-! ### calls -/
structure CalN (P : Program) (w : World) (K : PySem.W.Frag) (mg : Str → Option Value) (base : Heap) (k : Nat) (x : Str) (n : Nat) (ks : List Str) (sp : Sp) (gV : List V → List V → List V) : Prop where
  ex : ∃ (f : Addr) (fd : FuncData) (ps : List Str) (g : List Value → List Value → List Value), FnOk P w K mg base CX0 k f fd ps sp ∧ mg x = some (.ref f) ∧ PySem.W.keepIn K (.ref f) = true ∧ KBn K fd ps n ks g gV
structure MakN (P : Program) (w : World) (K : PySem.W.Frag) (mg : Str → Option Value) (base : Heap) (k : Nat) (x : Str) (C : Addr) (ks : List Str) (sp : Sp) (gV : List V → List V → List V) : Prop where
  ex : ∃ (f : Addr) (fd : FuncData) (ps : List Str) (g : List Value → List Value → List Value), Mk K C f ∧ FnOk P w K mg base CX0 k f fd ps sp ∧ mg x = some (.ref C) ∧ KBn K fd ps 1 ks g gV
structure PropC (P : Program) (w : World) (K : PySem.W.Frag) (mg : Str → Option Value) (base : Heap) (k : Nat) (C : Addr) (x : Str) (sp : Sp) : Prop where
  ex : ∃ (p g : Addr) (fd : FuncData) (ps : List Str), Cls K C ∧ PropOf K C x p g ∧ FnOk P w K mg base CX0 k g fd ps sp ∧ Binds K fd ps []
section
variable {X : Cx} {k j n : Nat} {C : Addr} {x m : Str} {sp : Sp} {p pos apos : Pos} {e o : Expr} {es : List Expr} {ta : TE} {t tk : TA} {kws : List Keyword} {ks : List Str} {gV : List V → List V → List V}
theorem CalN.pe (c : CalN X.prog X.w X.K X.mg X.base k x n ks sp gV) (hr : Room j X.A) (hk : k ≤ j) (hg : Gl X x) (ha : PA X (e :: es) t) (hkw : PK X kws tk)
    (hall : (backToKw pos (keywordEach kws X.env)).all (·.1.isSome) = true := by rfl) (hks : (backToKw pos (keywordEach kws X.env)).filterMap (·.1) = ks := by rfl)
    (hdb : (x == ("__debug__" : Str)) = false := by decide) (he : starEach (e :: es) X.env = (false, eval e X.env) :: starEach es X.env := by rfl)
    (hpl : ((backTo pos (starEach (e :: es) X.env)).any (·.1) || (backToKw pos (keywordEach kws X.env)).any (·.1.isNone)) = false := by rfl) :
    PE X (.Call (.Name x p) (e :: es) kws pos) (tCallN n ks.length sp gV E0 t tk) := by
  obtain ⟨f, fd, ps, g, F, hm, kp, b⟩ := c.ex
  exact pe_callN F (hr.mono hk) hg hm kp b pass0 ha hkw hall hks hdb he hpl
theorem MakN.pe (c : MakN X.prog X.w X.K X.mg X.base k x C ks sp gV) (hr : Room j X.A) (hk : k + 1 ≤ j) (hg : Gl X x) (hkw : PK X kws tk)
    (hall : (backToKw pos (keywordEach kws X.env)).all (·.1.isSome) = true := by rfl) (hks : (backToKw pos (keywordEach kws X.env)).filterMap (·.1) = ks := by rfl) (hdb : (x == ("__debug__" : Str)) = false := by decide)
    (hpl : ((backTo pos (starEach [] X.env)).any (·.1) || (backToKw pos (keywordEach kws X.env)).any (·.1.isNone)) = false := by rfl) :
    PE X (.Call (.Name x p) [] kws pos) (tMakeK C 0 ks.length sp gV E0 tNil tk) := by
  obtain ⟨f, fd, ps, g, M, F, hm, b⟩ := c.ex
  exact pe_makeK0 M F (hr.mono hk) hg hm b pass0 hkw hall hks hdb hpl
theorem PropC.pe (c : PropC X.prog X.w X.K X.mg X.base k C x sp) (hr : Room j X.A) (hk : k + 1 ≤ j) (he : PE X o ta) (hab : attributeBase o x X.env (eval o X.env) = eval o X.env) : PE X (.Attribute o x pos) (tProp C sp [] E0 ta) := by
  obtain ⟨p, g, fd, ps, hc, hp, F, b⟩ := c.ex
  exact pe_prop he hc hp F (hr.mono hk) b .nil pass0 hab
end
theorem hu64_of {k : Nat} {A : Around} (r : Room k A) : A.units + 64 < cLine := by have := r.un; omega
theorem hu65_of {k : Nat} {A : Around} (r : Room k A) : A.units + 65 < cLine := by have := r.un; omega
section
variable {ι : Type} {K : PySem.W.Frag} {tas : TA} {A : AS} {P : MP → Prop} {arg : ι → List MP} {E : XK}
/-- a call whose defaults fill up -/
theorem evp_callQD {post : ι → MP → Prop} {dvs : List V} {dms : List MP} (hd : ∀ F, MPs F dvs dms) (h : EvA K tas A fun ms => ∃ i, ms ++ dms = arg i ∧ ∀ m, post i m → P m) : EvP K (tCall (SpQ arg post) dvs E tas) A P := fun F0 H0 σ F H w Q k => by
  refine h F0 H0 σ F H w _ fun xs ms F1 H1 g1 p1 ⟨i, e, hq⟩ => ?_
  exact ⟨i, F1, ms ++ dms, g1.h, mps_app p1 (hd F1), e, fun v m F' H' g p r => k v m F' H' (g1.trans g) p (hq m r)⟩
end
/-! ### the chart -/
abbrev sds (xs : List Str) : List PyData := xs.map .str
structure Rd where
  name : Str
  start : Str
  fin : Str
  min : Int
  kinds : List Str
  hours : Option (List (Int × Int))
def hpD (p : Int × Int) : PyData := .tuple [.int p.1, .int p.2]
def hoursD : Option (List (Int × Int)) → PyData
  | none => .none
  | some ps => .tuple (ps.map hpD)
def Rd.data (r : Rd) : PyData := .tuple [.str r.name, .str r.start, .str r.fin, .int r.min, .tuple (sds r.kinds), hoursD r.hours]
def pairD (p : Str × Str) : PyData := .tuple [.str p.1, .str p.2]
structure Ch where
  day : Int
  places : List Str
  kinds : List Str
  roads : List Rd
  bars : List (Str × Str)
def chF (K : PySem.W.Frag) (c : Ch) : List (Str × MP) := [("day", dI K c.day), ("places", dT K (sds c.places)), ("kinds", dT K (sds c.kinds)), ("roads", dT K (c.roads.map Rd.data)), ("bars", dT K (c.bars.map pairD))]
def chM (K : PySem.W.Frag) (CM : Addr) (c : Ch) : MP := insM CM (chF K c)
def Ch.road? (c : Ch) (x : Str) : Option Rd := c.roads.find? fun r => decide (r.name = x)
def Ch.names (c : Ch) : List Str := c.roads.map Rd.name
def Rd.open_ (r : Rd) (kind : Str) : Bool := decide (kind ∈ r.kinds) && !(r.hours == some [])
def Ch.usable (c : Ch) (kind : Str) : List Str := (c.roads.filter fun r => r.open_ kind).map Rd.name
/-- names tell the roads apart -/
structure Ch.Ok (c : Ch) : Prop where
  nd : c.names.Nodup
  few : c.roads.length ≤ 8
  fin : ∀ r ∈ c.roads, r.fin ∈ c.places
  tok : ∀ r ∈ c.roads, PyData.strOk r.name = true
  btok : ∀ p ∈ c.bars, PyData.strOk p.1 = true ∧ PyData.strOk p.2 = true
def Ch.from_ (c : Ch) (p : Str) : List Str := (c.roads.filter fun r => decide (r.start = p)).map Rd.name
def Ch.follow (c : Ch) (x y : Str) : Bool := !decide ((x, y) ∈ c.bars)
end Wp
/-! Comprehensions that filter and map; more small rules. -/
namespace Wp
open PySem PySem.Spec PyProof.Rows L2
section
variable {K : PySem.W.Frag} {A : AS} {wi : TI} {tt : TT} {te : TE}
theorem evn_fm {α : Type} {j : Nat} {l : List α} {enc : α → MP} {p : α → Bool} {f : α → PyData} {P : List PyData → Prop} (hj : j < A.length) (hl : l.length ≤ 50000) (hi : EvI K wi A fun ms => ms = l.map enc)
    (ht : ∀ a ∈ l, EvT K tt (A.set j (some (.d (enc a)))) fun b => b = p a) (he : ∀ a ∈ l, p a = true → EvP K te (A.set j (some (.d (enc a)))) fun k => k = dat K (f a)) (q : P ((l.filter p).map f)) : EvN K (tLc wi (gName j) tt te [j]) A P := by
  refine evn_lc hj fun F0 H0 σ F H w R k => hi F0 H0 σ F H w R fun J ms F' H' g it e => k J ms F' H' g it ?_
  subst e
  refine ⟨by rw [List.length_map]; exact hl, fun i acc => acc = ((l.take i).filter p).map f, rfl, fun i m acc hm ea => ?_, fun acc ea => ?_⟩
  · rw [List.getElem?_map] at hm
    cases hq : l[i]? with
    | none => rw [hq] at hm; cases hm
    | some a =>
      rw [hq] at hm
      cases hm
      have ha : a ∈ l := List.mem_of_getElem? hq
      have et : l.take (i + 1) = l.take i ++ [a] := by rw [List.take_add_one, hq]; rfl
      refine (ht a ha).mono fun b eb => ?_
      subst eb
      cases hp : p a with
      | true =>
        refine (he a ha hp).mono fun k ek => ⟨f a, ek, ?_⟩
        show acc ++ [f a] = ((l.take (i + 1)).filter p).map f
        rw [et, List.filter_append, List.map_append, ← ea]
        simp [hp]
      | false =>
        show acc = ((l.take (i + 1)).filter p).map f
        rw [et, List.filter_append, List.map_append, ← ea]
        simp [hp]
  · rw [List.length_map, List.take_length] at ea
    exact ea ▸ q
/-- slices of tuples -/
theorem sok_tupTo {ds : List PyData} {i : Nat} {P : MP → Prop} (h : i < ds.length) (q : P (dT K (ds.take i))) : SOk (rSlT K) (dT K ds) none (some (i : Int)) P := fun F H x e p1 Q k => by
  obtain ⟨a, vs, rfl, ha, hd⟩ := p_tup p1
  have hl := hd.len
  have e0 : HT.sIx vs.length 0 none = 0 := rfl
  have e1 : HT.sIx vs.length vs.length (some (i : Int)) = i := by
    rw [HT.sIx_nat]
    omega
  refine ⟨a, vs, rfl, e.t ha, ?_, fun p hp => ?_⟩
  · rw [e1]
    omega
  · have ec : cutV vs none (some (i : Int)) = vs.take i := by
      unfold cutV
      rw [e0, e1]
      simp
    rw [ec]
    have g := Grow.add (o := .tup (vs.take i)) e hp
    exact k _ (dT K (ds.take i)) _ _ g (Dq.tup (SqT.of upd_same) (DqAll.ex g.f _ _ (DqAll.take i hd))) q
end
theorem atI_nat {α : Type} {l : List α} {i : Nat} {c : α} (h : l[i]? = some c) : atI l (i : Int) = some c := by
  have hl := (List.getElem?_eq_some_iff.mp h).1
  unfold atI ixN
  rw [if_pos (by omega : 0 ≤ (i : Int)), if_pos (by omega : (i : Int) < l.length), Int.toNat_natCast]
  exact h
theorem uok_neg {K : PySem.W.Frag} {i : Int} {P : MP → Prop} (q : P (dI K (-i))) : UOk (rU fun i => .int (-i)) (dI K i) P := fun F H x e p Q k => ⟨i, p_int p, k _ _ F H (Grow.refl e) (i_int _) q⟩
theorem all_yes {α : Type} (l : List α) (f : α → Bool) (h : ∀ a ∈ l, f a = true) : (l.map f).all id = true := by
  rw [List.all_map]
  exact List.all_eq_true.mpr fun a ha => h a ha
section
variable {K : PySem.W.Frag} {A : AS} {P : List MP → Prop} {i j k l : Nat} {a b c d : MP}
theorem eva_v1 (h1 : A[i]? = some (some (.d a))) (q : P [a]) : EvA K (tCons (tVar i) tNil) A P := eva_cons (evp_var h1 (eva_nil q))
theorem eva_v2 (h1 : A[i]? = some (some (.d a))) (h2 : A[j]? = some (some (.d b))) (q : P [a, b]) : EvA K (tCons (tVar i) (tCons (tVar j) tNil)) A P := eva_cons (evp_var h1 (eva_cons (evp_var h2 (eva_nil q))))
theorem eva_v3 (h1 : A[i]? = some (some (.d a))) (h2 : A[j]? = some (some (.d b))) (h3 : A[k]? = some (some (.d c))) (q : P [a, b, c]) : EvA K (tCons (tVar i) (tCons (tVar j) (tCons (tVar k) tNil))) A P := eva_cons (evp_var h1 (eva_cons (evp_var h2 (eva_cons (evp_var h3 (eva_nil q))))))
theorem eva_v4 (h1 : A[i]? = some (some (.d a))) (h2 : A[j]? = some (some (.d b))) (h3 : A[k]? = some (some (.d c))) (h4 : A[l]? = some (some (.d d))) (q : P [a, b, c, d]) : EvA K (tCons (tVar i) (tCons (tVar j) (tCons (tVar k) (tCons (tVar l) tNil)))) A P :=
  eva_cons (evp_var h1 (eva_cons (evp_var h2 (eva_cons (evp_var h3 (eva_cons (evp_var h4 (eva_nil q))))))))
theorem eva_1 {te : TE} (h : EvP K te A fun m => P [m]) : EvA K (tCons te tNil) A P := eva_cons (h.mono fun m q => eva_nil q)
end
/-! ### data that may be compared -/
def Sh (n : Nat) (d : PyData) : Prop := d.canLay0 = true ∧ d.depth ≤ n
def TOk (x : Str) : Prop := PyData.strOk x = true
theorem Sh.shaped {n : Nat} {d : PyData} (h : Sh n d) (hn : n ≤ 64) : SeqAt.shaped d = true := by
  unfold SeqAt.shaped
  rw [h.1]
  have := h.2
  simp
  omega
theorem Sh.mono {m n : Nat} {d : PyData} (h : Sh m d) (l : m ≤ n) : Sh n d := ⟨h.1, Nat.le_trans h.2 l⟩
theorem Sh.str {x : Str} (h : TOk x) : Sh 0 (.str x) := ⟨by simp only [PyData.canLay0]; exact h, by simp [PyData.depth]⟩
theorem Sh.int {i : Int} : Sh 0 (.int i) := ⟨by simp [PyData.canLay0], by simp [PyData.depth]⟩
theorem Sh.none : Sh 0 .none := ⟨by simp [PyData.canLay0], by simp [PyData.depth]⟩
theorem Sh.all {n : Nat} : ∀ {ds : List PyData}, (∀ d ∈ ds, Sh n d) → PyData.canLayAll0 ds = true ∧ PyData.depthAll ds ≤ n
  | [], _ => ⟨by simp [PyData.canLayAll0], by simp [PyData.depthAll]⟩
  | d :: ds, h => by
    obtain ⟨h1, h2⟩ := h d List.mem_cons_self
    obtain ⟨h3, h4⟩ := Sh.all (ds := ds) fun e he => h e (List.mem_cons_of_mem _ he)
    refine ⟨by simp [PyData.canLayAll0, h1, h3], ?_⟩
    simp only [PyData.depthAll]
    omega
theorem Sh.tup {n : Nat} {ds : List PyData} (h : ∀ d ∈ ds, Sh n d) : Sh (n + 1) (.tuple ds) := by
  obtain ⟨h1, h2⟩ := Sh.all h
  exact ⟨by simpa [PyData.canLay0] using h1, by simp only [PyData.depth]; omega⟩
theorem sh_pair {p : Str × Str} (h1 : TOk p.1) (h2 : TOk p.2) : Sh 1 (pairD p) := Sh.tup fun d hd => by
  simp only [List.mem_cons, List.not_mem_nil, or_false] at hd
  rcases hd with rfl | rfl
  · exact .str h1
  · exact .str h2
theorem sh_pairs {l : List (Str × Str)} (h : ∀ p ∈ l, TOk p.1 ∧ TOk p.2) : Sh 2 (.tuple (l.map pairD)) := Sh.tup fun d hd => by
  obtain ⟨p, hp, rfl⟩ := List.mem_map.mp hd
  exact sh_pair (h p hp).1 (h p hp).2
theorem sh_hours (o : Option (List (Int × Int))) : Sh 2 (hoursD o) := by
  cases o with
  | none => exact Sh.none.mono (by omega)
  | some ps =>
    refine Sh.tup fun d hd => ?_
    obtain ⟨p, hp, rfl⟩ := List.mem_map.mp hd
    refine Sh.tup fun d hd => ?_
    simp only [List.mem_cons, List.not_mem_nil, or_false] at hd
    rcases hd with rfl | rfl <;> exact .int
theorem sh_texts {l : List Str} (h : ∀ x ∈ l, TOk x) : Sh 1 (.tuple (sds l)) := Sh.tup fun d hd => by
  obtain ⟨p, hp, rfl⟩ := List.mem_map.mp hd
  exact .str (h p hp)
theorem sh_nil : Sh 1 (.tuple []) := Sh.tup fun d hd => by cases hd
theorem eqv_str (x y : Str) : PyData.eqv (.str x) (.str y) = decide (x = y) := by
  simp only [PyData.eqv]
  exact Bool.beq_eq_decide_eq x y
theorem eqv_pair (p q : Str × Str) : PyData.eqv (pairD p) (pairD q) = decide (p = q) := by
  obtain ⟨a, b⟩ := p
  obtain ⟨c, d⟩ := q
  have e : PyData.eqv (pairD (a, b)) (pairD (c, d)) = (PyData.eqv (.str a) (.str c) && PyData.eqv (.str b) (.str d)) := by
    simp [pairD, PyData.eqv, PyData.eqvAll]
  rw [e, eqv_str, eqv_str]
  by_cases h1 : a = c <;> by_cases h2 : b = d <;> simp [h1, h2]
theorem any_pair (p : Str × Str) (l : List (Str × Str)) : ((l.map pairD).any fun z => PyData.eqv z (pairD p)) = decide (p ∈ l) := by
  induction l with
  | nil => rfl
  | cons q l ih =>
    rw [List.map_cons, List.any_cons, ih, eqv_pair]
    by_cases h : q = p
    · simp [h]
    · have h' : ¬ p = q := fun e => h e.symm
      simp [h, h']
theorem hours_eqv (h : Option (List (Int × Int))) : PyData.eqv (hoursD h) (.tuple []) = (h == some []) := by
  cases h with
  | none => simp [hoursD, PyData.eqv]
  | some ps =>
    cases ps with
    | nil => simp [hoursD, PyData.eqv, PyData.eqvAll]
    | cons p ps => simp [hoursD, PyData.eqv, PyData.eqvAll]
/-! ### plain facts -/
theorem first_at {l : List Rd} {x : Str} : ∀ {i : Nat} {q : Rd}, l[i]? = some q → q.name = x → (∀ j, j < i → ∀ q', l[j]? = some q' → q'.name ≠ x) → l.find? (fun r => decide (r.name = x)) = some q := by
  induction l with
  | nil => intro i q h; simp at h
  | cons a l ih =>
    intro i q h e hn
    cases i with
    | zero =>
      cases Option.some.inj h
      rw [List.find?_cons, decide_eq_true e]
    | succ i =>
      have na : ¬ a.name = x := hn 0 (Nat.succ_pos _) a rfl
      rw [List.find?_cons, decide_eq_false na]
      exact ih h e fun j hj q' hq' => hn (j + 1) (Nat.succ_lt_succ hj) q' hq'
theorem road_in {c : Ch} {x : Str} {r : Rd} (h : c.road? x = some r) : r ∈ c.roads ∧ r.name = x := by
  unfold Ch.road? at h
  exact ⟨List.mem_of_find?_eq_some h, by have := List.find?_some h; simpa using this⟩
theorem road_of {c : Ch} (hn : c.names.Nodup) {r : Rd} (h : r ∈ c.roads) : c.road? r.name = some r := by
  obtain ⟨i, hi⟩ := List.mem_iff_getElem?.mp h
  refine first_at hi rfl fun j hj q hq e => ?_
  have h1 : c.names[i]? = some r.name := by unfold Ch.names; rw [List.getElem?_map, hi]; rfl
  have h2 : c.names[j]? = some r.name := by unfold Ch.names; rw [List.getElem?_map, hq, ← e]; rfl
  have := (List.getElem?_inj (List.getElem?_eq_some_iff.mp h2).1 hn).mp (h2.trans h1.symm)
  omega
end Wp
/-! The map's small defs. -/
namespace Wp
open PySem PySem.Spec PyProof.Rows L2
variable {P : Program} {w : World} {K : PySem.W.Frag} {mg : Str → Option Value} {base : Heap} {CM CN CA : Addr}
/-! ### road -/
abbrev s_Map_road : Stmt := inClass (top 33) 4
abbrev n_Map_road : List Str := ["self", "name", "road"]
abbrev p_Map_road : List Str := ["self", "name"]
theorem sc_Map_road : FnScope n_Map_road p_Map_road (defScope s_Map_road) := ⟨rfl, rfl, rfl, by decide +kernel, rfl, by decide +kernel, by decide +kernel⟩
structure IRoad where
  c : Ch
  x : Str
  r : Rd
  h : c.road? x = some r
def spRoad (K : PySem.W.Frag) (CM : Addr) : Sp := SpQ (fun i : IRoad => [chM K CM i.c, dS K i.x]) fun i m => m = dat K i.r.data
theorem ok_road {f : Addr} {fd : FuncData} (Fn : L2.Fun K "road" "Map.road" s_Map_road f fd) (T : Txt K mg CM CN CA) : FnOk P w K mg base CX0 1 f fd p_Map_road (spRoad K CM) := by
  refine fun_okQ Fn sc_Map_road (fun i => rfl) fun cdv A outer s H E hr => ?_
  refine ⟨_, (pss_cons (ps_for PassesOwn.never rfl (pi_tup (pe_fld (pv 0) rfl)) (pg_name (i := 2) sc_Map_road.nd rfl (Or.inl rfl)) (pss_one (ps_if (pt_cmpR op_eq (pe_ix ix_tup (pv 2) pe_int (fun _ _ => rfl)) (pv 1) (nomark _)) (pss_one (ps_ret (pv 2))) pss_nil)))
      (pss_one ps_never)), fun i => ?_⟩
  obtain ⟨c, x, r, hx⟩ := i
  show ASt K _ [some (.d (chM K CM c)), some (.d (dS K x)), none] _
  refine ast_seq (ast_for (evi_tup (evp_fld (evp_var rfl ⟨CM, chF K c, _, rfl, T.clM, T.m_roads, rfl, _, rfl, ?_⟩))))
  refine ⟨fun i A' => ∃ y, A' = [some (.d (chM K CM c)), some (.d (dS K x)), y] ∧ ∀ j, j < i → ∀ q, c.roads[j]? = some q → q.name ≠ x, ⟨none, rfl, fun j h => absurd h (Nat.not_lt_zero _)⟩, ?_, ?_⟩
  · rintro i m A' hm ⟨y, rfl, hn⟩
    rw [List.map_map, List.getElem?_map] at hm
    cases hq : c.roads[i]? with
    | none => rw [hq] at hm; cases hm
    | some q =>
      rw [hq] at hm
      cases hm
      refine as_name (ast_if (evt_test (evp_op (evp_op (evp_var rfl (evp_int (rok_ixT (d := .str q.name) rfl (evp_var rfl (rok_eqS ⟨_, rfl, ?_⟩)))))))))
      by_cases e : q.name = x
      · rw [decide_eq_true e]
        refine ast_ret (evp_var rfl ?_)
        have z := first_at hq e hn
        have z2 : c.road? x = some q := z
        rw [hx] at z2
        cases z2
        rfl
      · rw [decide_eq_false e]
        refine ast_next ⟨_, rfl, fun j hj q' hq' => ?_⟩
        rcases Nat.lt_succ_iff_lt_or_eq.mp hj with h | h
        · exact hn j h q' hq'
        · subst h
          rw [hq] at hq'
          cases hq'
          exact e
  · rintro A' ⟨y, rfl, hn⟩
    refine ast_no ?_
    obtain ⟨hr, e⟩ := road_in hx
    obtain ⟨j, hj⟩ := List.mem_iff_getElem?.mp hr
    refine hn j ?_ r hj e
    rw [List.length_map, List.length_map]
    exact (List.getElem?_eq_some_iff.mp hj).1
/-! ### road_names -/
abbrev s_Map_road_names : Stmt := inClass (top 33) 3
abbrev n_Map_road_names : List Str := ["self", "road"]
abbrev p_Map_road_names : List Str := ["self"]
theorem sc_Map_road_names : FnScope n_Map_road_names p_Map_road_names (defScope s_Map_road_names) := ⟨rfl, rfl, rfl, by decide +kernel, rfl, by decide +kernel, by decide +kernel⟩
def spNames (K : PySem.W.Frag) (CM : Addr) : Sp := SpQ (fun c : { c : Ch // c.roads.length ≤ 100 } => [chM K CM c.1]) fun c m => m = dT K (sds c.1.names)
theorem ok_names {f : Addr} {fd : FuncData} (Fn : L2.Fun K "road_names" "Map.road_names" s_Map_road_names f fd) (T : Txt K mg CM CN CA) : FnOk P w K mg base CX0 1 f fd p_Map_road_names (spNames K CM) := by
  refine fun_okQ Fn sc_Map_road_names (fun i => rfl) fun cdv A outer s H E hr => ?_
  refine ⟨_, (pss_one (ps_ret (pe_callTy call_tupA (by rfl) T.b_tuple PyProof.Rows.boot_tuple (pa_cons (pe_lc rfl sc_Map_road_names.nd (pi_tup (pe_fld (pv 0) rfl)) (blkOk_by (own := [("road", 1)]) (N := n_Map_road_names) (sc := defScope s_Map_road_names) (by decide +kernel)) (fun _ _ _ _ _ => (pg_name (i := 1) sc_Map_road_names.nd rfl (Or.inl rfl))) (fun _ _ _ _ _ => pts_nil) (fun _ _ _ _ _ => (pe_ix (show IxR _ (rIxT K) from ix_tup) (pv 1) pe_int (fun _ _ => rfl)))) pa_nil)))), fun i => ?_⟩
  obtain ⟨c, hc⟩ := i
  show ASt K _ [some (.d (chM K CM c)), none] _
  refine ast_ret (evp_cb (eva_cons (evn_p (evn_fm (l := c.roads) (enc := fun r => dat K r.data) (p := fun _ => true) (f := fun r => .str r.name) (by simp) (by omega) ?_ ?_ ?_ ?_))))
  · exact evi_tup (evp_fld (evp_var rfl ⟨CM, chF K c, _, rfl, T.clM, T.m_roads, rfl, _, rfl, by rw [List.map_map]; rfl⟩))
  · exact fun a ha => evt_yes rfl
  · exact fun a ha _ => evp_op (evp_var rfl (evp_int (rok_ixT (d := .str a.name) rfl rfl)))
  · refine eva_nil (cok_tupL ?_)
    rw [List.filter_eq_self.mpr (fun _ _ => rfl)]
    unfold Ch.names
    show _ = dT K (List.map _ _)
    rw [List.map_map]
    rfl
/-! ### check_place -/
abbrev s_Map_check_place : Stmt := inClass (top 33) 5
abbrev n_Map_check_place : List Str := ["self", "place"]
abbrev p_Map_check_place : List Str := ["self", "place"]
theorem sc_Map_check_place : FnScope n_Map_check_place p_Map_check_place (defScope s_Map_check_place) := ⟨rfl, rfl, rfl, by decide +kernel, rfl, by decide +kernel, by decide +kernel⟩
def spPlace (K : PySem.W.Frag) (CM : Addr) : Sp := SpQ (fun i : { i : Ch × Str // i.2 ∈ i.1.places } => [chM K CM i.1.1, dS K i.1.2]) fun _ m => m = dN K
theorem ok_place {f : Addr} {fd : FuncData} (Fn : L2.Fun K "check_place" "Map.check_place" s_Map_check_place f fd) (T : Txt K mg CM CN CA) : FnOk P w K mg base CX0 1 f fd p_Map_check_place (spPlace K CM) := by
  refine fun_okQ Fn sc_Map_check_place (fun i => rfl) fun cdv A outer s H E hr => ?_
  refine ⟨_, (pss_one (ps_if (pt_cmpR op_notIn_seq (pv 1) (pe_fld (pv 0) rfl) (by with_unfolding_all rfl)) (pss_one ps_never) pss_nil)), fun i => ?_⟩
  obtain ⟨⟨c, x⟩, hx⟩ := i
  show ASt K _ [some (.d (chM K CM c)), some (.d (dS K x))] _
  refine ast_if (evt_test (evp_op (evp_var rfl (evp_fld (evp_var rfl ⟨CM, chF K c, _, rfl, T.clM, T.m_places, rfl, rok_niT ⟨_, rfl, ?_⟩⟩)))))
  have hx : x ∈ c.places := hx
  rw [decide_eq_true hx]
  exact ast_next rfl
/-! ### roads_from -/
abbrev s_Map_roads_from : Stmt := inClass (top 33) 6
abbrev n_Map_roads_from : List Str := ["self", "place", "road"]
abbrev p_Map_roads_from : List Str := ["self", "place"]
theorem sc_Map_roads_from : FnScope n_Map_roads_from p_Map_roads_from (defScope s_Map_roads_from) := ⟨rfl, rfl, rfl, by decide +kernel, rfl, by decide +kernel, by decide +kernel⟩
def spFrom (K : PySem.W.Frag) (CM : Addr) : Sp := SpQ (fun i : { i : Ch × Str // i.2 ∈ i.1.places ∧ i.1.roads.length ≤ 100 } => [chM K CM i.1.1, dS K i.1.2]) fun i m => m = dL K (sds (i.1.1.from_ i.1.2))
theorem ok_from {f : Addr} {fd : FuncData} (Fn : L2.Fun K "roads_from" "Map.roads_from" s_Map_roads_from f fd) (T : Txt K mg CM CN CA) (c_Map_check_place : C8.Met P w K mg base 1 CM "check_place" (spPlace K CM) []) : FnOk P w K mg base CX0 2 f fd p_Map_roads_from (spFrom K CM) := by
  refine fun_okQ Fn sc_Map_roads_from (fun i => rfl) fun cdv A outer s H E hr => ?_
  refine ⟨_, (pss_cons (ps_expr (C8.pe_mt c_Map_check_place hr (by decide) (pv 0) (pa_cons (pv 1) pa_nil)))
      (pss_one (ps_ret (pe_lc rfl sc_Map_roads_from.nd (pi_tup (pe_fld (pv 0) rfl)) (blkOk_by (own := [("road", 2)]) (N := n_Map_roads_from) (sc := defScope s_Map_roads_from) (by decide +kernel)) (fun _ _ _ _ _ => (pg_name (i := 2) sc_Map_roads_from.nd rfl (Or.inl rfl))) (fun _ _ _ _ _ => (pts_one (pt_cmpR op_eq (pe_ix (show IxR _ (rIxT K) from ix_tup) (pv 2) pe_int (fun _ _ => rfl)) (pv 1) (nomark _)))) (fun _ _ _ _ _ => (pe_ix (show IxR _ (rIxT K) from ix_tup) (pv 2) pe_int (fun _ _ => rfl))))))), fun i => ?_⟩
  obtain ⟨⟨c, x⟩, hx, hc⟩ := i
  show ASt K _ [some (.d (chM K CM c)), some (.d (dS K x)), none] _
  refine ast_seq (ast_drop (evp_methQ (evp_var rfl ⟨ins_ok rfl, eva_cons (evp_var rfl (eva_nil ⟨⟨(c, x), hx⟩, rfl, fun r _ => ?_⟩))⟩)))
  refine ast_ret (evn_p (evn_fm (l := c.roads) (enc := fun r => dat K r.data) (p := fun r => decide (r.start = x)) (f := fun r => .str r.name) (by simp) (by show c.roads.length ≤ _; have : c.roads.length ≤ 100 := hc; omega) ?_ ?_ ?_ ?_))
  · exact evi_tup (evp_fld (evp_var rfl ⟨CM, chF K c, _, rfl, T.clM, T.m_roads, rfl, _, rfl, by rw [List.map_map]; rfl⟩))
  · exact fun a ha => evt_test (evp_op (evp_op (evp_var rfl (evp_int (rok_ixT (d := .str a.start) rfl (evp_var rfl (rok_eqS ⟨_, rfl, rfl⟩)))))))
  · exact fun a ha _ => evp_op (evp_var rfl (evp_int (rok_ixT (d := .str a.name) rfl rfl)))
  · unfold Ch.from_
    show _ = dL K (List.map _ _)
    rw [List.map_map]
    rfl
/-! ### followers -/
abbrev s_Map_followers : Stmt := inClass (top 33) 10
abbrev n_Map_followers : List Str := ["self", "name", "end", "other"]
abbrev p_Map_followers : List Str := ["self", "name"]
theorem sc_Map_followers : FnScope n_Map_followers p_Map_followers (defScope s_Map_followers) := ⟨rfl, rfl, rfl, by decide +kernel, rfl, by decide +kernel, by decide +kernel⟩
structure IFol where
  c : Ch
  x : Str
  r : Rd
  h : c.road? x = some r
  hf : r.fin ∈ c.places
  hc : c.roads.length ≤ 100
  hx : TOk x
  hn : ∀ r ∈ c.roads, TOk r.name
  hb : ∀ p ∈ c.bars, TOk p.1 ∧ TOk p.2
def Ch.folls (c : Ch) (x : Str) (r : Rd) : List Str := (c.from_ r.fin).filter fun y => c.follow x y
def spFol (K : PySem.W.Frag) (CM : Addr) : Sp := SpQ (fun i : IFol => [chM K CM i.c, dS K i.x]) fun i m => m = dL K (sds (i.c.folls i.x i.r))
theorem from_len (c : Ch) (p : Str) : (c.from_ p).length ≤ c.roads.length := by
  unfold Ch.from_
  rw [List.length_map]
  exact List.length_filter_le _ _
theorem ok_fol {f : Addr} {fd : FuncData} (Fn : L2.Fun K "followers" "Map.followers" s_Map_followers f fd) (T : Txt K mg CM CN CA) (c_Map_road : C8.Met P w K mg base 1 CM "road" (spRoad K CM) []) (c_Map_roads_from : C8.Met P w K mg base 2 CM "roads_from" (spFrom K CM) []) :
    FnOk P w K mg base CX0 3 f fd p_Map_followers (spFol K CM) := by
  refine fun_okQ Fn sc_Map_followers (fun i => rfl) fun cdv A outer s H E hr => ?_
  have hu65 := hu65_of hr
  refine ⟨_, (pss_cons (ps_set (i := 2) sc_Map_followers.nd rfl (Or.inl rfl) (pe_ix ix_tup (C8.pe_mt c_Map_road hr (by decide) (pv 0) (pa_cons (pv 1) pa_nil)) pe_int (fun _ _ => rfl)))
      (pss_one (ps_ret (pe_lc rfl sc_Map_followers.nd (pi_list (C8.pe_mt c_Map_roads_from hr (by decide) (pv 0) (pa_cons (pv 2) pa_nil))) (blkOk_by (own := [("other", 3)]) (N := n_Map_followers) (sc := defScope s_Map_followers) (by decide +kernel)) (fun _ _ _ _ _ => (pg_name (i := 3) sc_Map_followers.nd rfl (Or.inl rfl))) (fun _ _ _ _ _ => (pts_one (pt_cmpR (show OpR _ _ (rNiDT K) from (op_niDT hu65)) (pe_tup (pa_cons (pv 1) (pa_cons (pv 3) pa_nil))) (show PE _ _ (tFld K _ _) from (pe_fld (pv 0) rfl)) (by with_unfolding_all rfl)))) (fun _ _ _ _ _ => (pv 3)))))), fun i => ?_⟩
  obtain ⟨c, x, r, hx, hf, hc, hxo, hno, hb⟩ := i
  show ASt K _ [some (.d (chM K CM c)), some (.d (dS K x)), none, none] _
  refine ast_seq (ast_asg (evp_op (evp_methQ (evp_var rfl ⟨ins_ok rfl, eva_cons (evp_var rfl (eva_nil ⟨⟨c, x, r, hx⟩, rfl, fun m em => ?_⟩))⟩))))
  subst em
  refine evp_int (rok_ixT (d := .str r.fin) rfl ?_)
  refine ast_ret (evn_p (evn_fm (l := c.from_ r.fin) (enc := fun y => dS K y) (p := fun y => c.follow x y) (f := fun y => .str y) (by simp) (by have := from_len c r.fin; omega) ?_ ?_ ?_ ?_))
  · refine evi_list (evp_methQ (evp_var rfl ⟨ins_ok rfl, eva_cons (evp_var rfl (eva_nil ⟨⟨(c, r.fin), hf, hc⟩, rfl, fun m em => ⟨_, em, ?_⟩⟩))⟩))
    unfold sds
    rw [List.map_map]
    rfl
  · intro a ha
    refine evt_test (evp_op (evp_tup (eva_cons (evp_var rfl (eva_cons (evp_var rfl (eva_nil ⟨[.str x, .str a], rfl, by simp, evp_fld (evp_var rfl ⟨CM, chF K c, _, rfl, T.clM, T.m_bars, rfl, ?_⟩)⟩)))))))
    have hao : TOk a := by
      obtain ⟨q, hq, rfl⟩ := List.mem_map.mp ha
      exact hno q (List.mem_filter.mp hq).1
    refine rok_niDT (d := pairD (x, a)) ((sh_pair (p := (x, a)) hxo hao).shaped (by decide)) ((sh_pairs hb).shaped (by decide)) ⟨_, rfl, ?_⟩
    rw [any_pair]
    rfl
  · exact fun a ha _ => evp_var rfl rfl
  · rfl
/-! ### require -/
abbrev s_require : Stmt := top 32
abbrev n_require : List Str := ["holds"]
abbrev p_require : List Str := ["holds"]
theorem sc_require : FnScope n_require p_require (defScope s_require) := ⟨rfl, rfl, rfl, by decide +kernel, rfl, by decide +kernel, by decide +kernel⟩
def spReq (K : PySem.W.Frag) : Sp := SpQ (fun _ : Unit => [dB K true]) fun _ m => m = dN K
theorem ok_req {f : Addr} {fd : FuncData} (Fn : L2.Fun K "require" "require" s_require f fd) : FnOk P w K mg base CX0 1 f fd p_require (spReq K) := by
  refine fun_okQ Fn sc_require (fun i => rfl) fun cdv A outer s H E hr => ?_
  refine ⟨_, (pss_one (ps_if (pt_not (pt_val (pv 0))) (pss_one ps_never) pss_nil)), fun i => ?_⟩
  show ASt K _ [some (.d (dB K true))] _
  exact ast_if (evt_not (evt_B (evp_var rfl ⟨_, rfl, ast_next rfl⟩)))
/-! ### is_open -/
abbrev s_is_open : Stmt := top 9
abbrev n_is_open : List Str := ["chart", "kind", "name", "road"]
abbrev p_is_open : List Str := ["chart", "kind", "name"]
theorem sc_is_open : FnScope n_is_open p_is_open (defScope s_is_open) := ⟨rfl, rfl, rfl, by decide +kernel, rfl, by decide +kernel, by decide +kernel⟩
def spOpen (K : PySem.W.Frag) (CM : Addr) : Sp := SpQ (fun i : IRoad × Str => [chM K CM i.1.c, dS K i.2, dS K i.1.x]) fun i m => m = dB K (i.1.r.open_ i.2)
theorem ok_open {f : Addr} {fd : FuncData} (Fn : L2.Fun K "is_open" "is_open" s_is_open f fd) (c_Map_road : C8.Met P w K mg base 1 CM "road" (spRoad K CM) []) : FnOk P w K mg base CX0 2 f fd p_is_open (spOpen K CM) := by
  refine fun_okQ Fn sc_is_open (fun i => rfl) fun cdv A outer s H E hr => ?_
  have hu64 := hu64_of hr
  refine ⟨_, (pss_cons (ps_set (i := 3) sc_is_open.nd rfl (Or.inl rfl) (C8.pe_mt c_Map_road hr (by decide) (pv 0) (pa_cons (pv 2) pa_nil)))
      (pss_one (ps_ret (pe_and (pe_cmpR op_in_seq (pv 1) (pe_ix ix_tup (pv 3) pe_int (fun _ _ => rfl)) (by with_unfolding_all rfl)) (pe_one (pe_cmpR (op_neD hu64) (pe_ix ix_tup (pv 3) pe_int (fun _ _ => rfl)) (pe_tup pa_nil) (nomark _))))))), fun i => ?_⟩
  obtain ⟨⟨c, x, r, hx⟩, kind⟩ := i
  show ASt K _ [some (.d (chM K CM c)), some (.d (dS K kind)), some (.d (dS K x)), none] _
  refine ast_seq (ast_asg (evp_methQ (evp_var rfl ⟨ins_ok rfl, eva_cons (evp_var rfl (eva_nil ⟨⟨c, x, r, hx⟩, rfl, fun m em => ?_⟩))⟩)))
  subst em
  refine ast_ret (evp_andV (evp_op (evp_var rfl (evp_op (evp_var rfl (evp_int (rok_ixT (d := .tuple (sds r.kinds)) rfl (rok_inT ⟨_, rfl, ?_⟩))))))))
  by_cases hk : kind ∈ r.kinds
  · rw [decide_eq_true hk]
    refine evp_op (evp_op (evp_var rfl (evp_int (rok_ixT (d := hoursD r.hours) rfl (evp_tup (eva_nil ⟨[], rfl, by decide, rok_neD ((sh_hours _).shaped (by decide)) (sh_nil.shaped (by decide)) ?_⟩))))))
    rw [hours_eqv]
    show _ = dB K (r.open_ kind)
    unfold Rd.open_
    rw [decide_eq_true hk]
    rfl
  · rw [decide_eq_false hk]
    show _ = dB K (r.open_ kind)
    unfold Rd.open_
    rw [decide_eq_false hk]
    rfl
end Wp
/-! More small defs. -/
namespace Wp
open PySem PySem.Spec PyProof.Rows L2
variable {P : Program} {w : World} {K : PySem.W.Frag} {mg : Str → Option Value} {base : Heap} {CM CN CA : Addr}
/-! ### usable -/
abbrev s_usable : Stmt := top 10
abbrev n_usable : List Str := ["chart", "kind", "name"]
abbrev p_usable : List Str := ["chart", "kind"]
theorem sc_usable : FnScope n_usable p_usable (defScope s_usable) := ⟨rfl, rfl, rfl, by decide +kernel, rfl, by decide +kernel, by decide +kernel⟩
def spUsable (K : PySem.W.Frag) (CM : Addr) : Sp := SpQ (fun i : { i : Ch × Str // i.1.names.Nodup ∧ i.1.roads.length ≤ 100 } => [chM K CM i.1.1, dS K i.1.2]) fun i m => m = dL K (sds (i.1.1.usable i.1.2))
theorem ok_usable {f : Addr} {fd : FuncData} (Fn : L2.Fun K "usable" "usable" s_usable f fd) (c_is_open : C8.Cal P w K mg base 2 "is_open" (spOpen K CM) []) (p_road_names : PropC P w K mg base 1 CM "road_names" (spNames K CM)) :
    FnOk P w K mg base CX0 3 f fd p_usable (spUsable K CM) := by
  refine fun_okQ Fn sc_usable (fun i => rfl) fun cdv A outer s H E hr => ?_
  refine ⟨_, (pss_one (ps_ret (pe_lc rfl sc_usable.nd (pi_tup (p_road_names.pe hr (by decide) (pv 0) rfl)) (blkOk_by (own := [("name", 2)]) (N := n_usable) (sc := defScope s_usable) (by decide +kernel)) (fun _ _ _ _ _ => (pg_name (i := 2) sc_usable.nd rfl (Or.inl rfl))) (fun _ _ _ _ _ => (pts_one (pt_val (C8.pe_c c_is_open hr (by decide) (by rfl) (pa_cons (pv 0) (pa_cons (pv 1) (pa_cons (pv 2) pa_nil))))))) (fun _ _ _ _ _ => (pv 2))))), fun i => ?_⟩
  obtain ⟨⟨c, kind⟩, hn, hl⟩ := i
  have hn : c.names.Nodup := hn
  have hl : c.roads.length ≤ 100 := hl
  show ASt K _ [some (.d (chM K CM c)), some (.d (dS K kind)), none] _
  refine ast_ret (evn_p (evn_fm (l := c.roads) (enc := fun r => dS K r.name) (p := fun r => r.open_ kind) (f := fun r => .str r.name) (by simp) (by omega) ?_ ?_ ?_ ?_))
  · refine evi_tup (evp_propQ (name := "road_names") (evp_var rfl ⟨ins_ok rfl, ⟨c, hl⟩, rfl, fun m em => ⟨_, em, ?_⟩⟩))
    show List.map _ (List.map _ (List.map _ _)) = _
    rw [List.map_map, List.map_map]
    rfl
  · intro r hr
    refine evt_B (evp_callQ (eva_cons (evp_var rfl (eva_cons (evp_var rfl (eva_cons (evp_var rfl (eva_nil ⟨(⟨c, r.name, r, road_of hn hr⟩, kind), rfl, fun m em => ⟨_, em, rfl⟩⟩))))))))
  · exact fun r hr _ => evp_var rfl rfl
  · show _ = dL K (List.map _ (List.map _ _))
    rw [List.map_map]
    rfl
/-! ### check_ends -/
abbrev s_check_ends : Stmt := top 8
abbrev n_check_ends : List Str := ["chart", "kind", "start", "goal"]
abbrev p_check_ends : List Str := ["chart", "kind", "start", "goal"]
theorem sc_check_ends : FnScope n_check_ends p_check_ends (defScope s_check_ends) := ⟨rfl, rfl, rfl, by decide +kernel, rfl, by decide +kernel, by decide +kernel⟩
structure IEnds where
  c : Ch
  kind : Str
  start : Str
  goal : Str
  hk : kind ∈ c.kinds
  hs : start ∈ c.places
  hg : goal ∈ c.places
  ne : start ≠ goal
def spEnds (K : PySem.W.Frag) (CM : Addr) : Sp := SpQ (fun i : IEnds => [chM K CM i.c, dS K i.kind, dS K i.start, dS K i.goal]) fun _ m => m = dN K
theorem ok_ends {f : Addr} {fd : FuncData} (Fn : L2.Fun K "check_ends" "check_ends" s_check_ends f fd) (T : Txt K mg CM CN CA) (c_Map_check_place : C8.Met P w K mg base 1 CM "check_place" (spPlace K CM) []) :
    FnOk P w K mg base CX0 2 f fd p_check_ends (spEnds K CM) := by
  refine fun_okQ Fn sc_check_ends (fun i => rfl) fun cdv A outer s H E hr => ?_
  refine ⟨_, (pss_cons (ps_if (pt_cmpR op_notIn_seq (pv 1) (pe_fld (pv 0) rfl) (by with_unfolding_all rfl)) (pss_one ps_never) pss_nil)
      (pss_cons (ps_expr (C8.pe_mt c_Map_check_place hr (by decide) (pv 0) (pa_cons (pv 2) pa_nil)))
      (pss_cons (ps_expr (C8.pe_mt c_Map_check_place hr (by decide) (pv 0) (pa_cons (pv 3) pa_nil)))
      (pss_one (ps_if (pt_cmpR op_eq (pv 2) (pv 3) (nomark _)) (pss_one ps_never) pss_nil))))), fun i => ?_⟩
  obtain ⟨c, kind, start, goal, hk, hs, hg, ne⟩ := i
  show ASt K _ [some (.d (chM K CM c)), some (.d (dS K kind)), some (.d (dS K start)), some (.d (dS K goal))] _
  refine ast_seq (ast_if (evt_test (evp_op (evp_var rfl (evp_fld (evp_var rfl ⟨CM, chF K c, _, rfl, T.clM, T.m_kinds, rfl, rok_niT ⟨_, rfl, ?_⟩⟩))))))
  rw [decide_eq_true hk]
  refine ast_next ?_
  refine ast_seq (ast_drop (evp_methQ (evp_var rfl ⟨ins_ok rfl, eva_cons (evp_var rfl (eva_nil ⟨⟨(c, start), hs⟩, rfl, fun r _ => ?_⟩))⟩)))
  refine ast_seq (ast_drop (evp_methQ (evp_var rfl ⟨ins_ok rfl, eva_cons (evp_var rfl (eva_nil ⟨⟨(c, goal), hg⟩, rfl, fun r _ => ?_⟩))⟩)))
  refine ast_if (evt_test (evp_op (evp_var rfl (evp_var rfl (rok_eqS ⟨_, rfl, ?_⟩)))))
  rw [decide_eq_false ne]
  exact ast_next rfl
/-! ### Apart's __init__ -/
abbrev s_Apart___init__ : Stmt := inClass (top 7) 0
abbrev n_Apart___init__ : List Str := ["self", "routes", "cut", "route"]
abbrev p_Apart___init__ : List Str := ["self", "routes", "cut"]
theorem sc_Apart___init__ : FnScope n_Apart___init__ p_Apart___init__ (defScope s_Apart___init__) := ⟨rfl, rfl, rfl, by decide +kernel, rfl, by decide +kernel, by decide +kernel⟩
def apF (K : PySem.W.Frag) (rs : List (List Str)) (cut : List Str) : List (Str × MP) := [("routes", dL K (rs.map fun r => .tuple (sds r))), ("cut", dT K (sds cut))]
def spApart (K : PySem.W.Frag) (CA : Addr) : Sp := SpIQ CA (fun i : { i : List (List Str) × List Str // i.1.length ≤ 100 } => [dL K (i.1.1.map fun r => .list (sds r)), dL K (sds i.1.2)]) fun i fs => fs = apF K i.1.1 i.1.2
theorem ok_apart_init {f : Addr} {fd : FuncData} {dvs : List V} {kws : List (Str × V)} (Fn : FunD K "__init__" "Apart.__init__" (defArgs s_Apart___init__) (defBody s_Apart___init__) (defScope s_Apart___init__) dvs kws f fd) (T : Txt K mg CM CN CA) :
    FnOk P w K mg base CX0 1 f fd p_Apart___init__ (spApart K CA) := by
  refine init_okQ Fn sc_Apart___init__ (by decide) (fun i => rfl) fun cdv A outer s H E hr => ?_
  refine ⟨_, (pss_cons (ps_fld (pv 0) (pe_lc rfl sc_Apart___init__.nd (pi_list (pv 1)) (blkOk_by (own := [("route", 3)]) (N := n_Apart___init__) (sc := defScope s_Apart___init__) (by decide +kernel)) (fun _ _ _ _ _ => (pg_name (i := 3) sc_Apart___init__.nd rfl (Or.inl rfl))) (fun _ _ _ _ _ => pts_nil) (fun _ _ _ _ _ => (pe_callTy (show CallR _ _ (rTup K) from call_tupA) (by rfl) T.b_tuple PyProof.Rows.boot_tuple (pa_cons (pv 3) pa_nil)))) rfl)
      (pss_one (ps_fld (pv 0) (pe_callTy call_tupA (by rfl) T.b_tuple PyProof.Rows.boot_tuple (pa_cons (pv 2) pa_nil)) rfl))), fun i x => ?_⟩
  obtain ⟨⟨rs, cut⟩, hl⟩ := i
  have hl : rs.length ≤ 100 := hl
  show ASt K _ [some (.own (.ins x CA [])), some (.d (dL K (rs.map fun r => .list (sds r)))), some (.d (dL K (sds cut))), none] _
  refine ast_seq (ast_fld rfl T.clA T.a_routes (by simp) (evn_p (evn_fm (l := rs) (enc := fun r => dL K (sds r)) (p := fun _ => true) (f := fun r => .tuple (sds r)) (by simp) (by omega) ?_ ?_ ?_ ?_)))
  · exact evi_list (evp_var rfl ⟨_, rfl, by rw [List.map_map]; rfl⟩)
  · exact fun a ha => evt_yes rfl
  · exact fun a ha _ => evp_cb (eva_cons (evp_var rfl (eva_nil (cok_tupL rfl))))
  · rw [List.filter_eq_self.mpr (fun _ _ => rfl)]
    refine ast_fld rfl T.clA T.a_cut (by simp [putM]) (evp_cb (eva_cons (evp_var rfl (eva_nil (cok_tupL ?_)))))
    exact ⟨0, _, rfl, rfl⟩
/-! ### name_of is used as a key; is_name -/
abbrev s_is_name : Stmt := top 28
abbrev n_is_name : List Str := ["text", "char"]
abbrev p_is_name : List Str := ["text"]
theorem sc_is_name : FnScope n_is_name p_is_name (defScope s_is_name) := ⟨rfl, rfl, rfl, by decide +kernel, rfl, by decide +kernel, by decide +kernel⟩
def signs : List Nat := ("abcdefghijklmnopqrstuvwxyz0123456789" : Str).cps.toList
def digits : List Nat := ("0123456789" : Str).cps.toList
structure GoodName (x : Str) : Prop where
  lo : 1 ≤ x.length
  hi : x.length ≤ 12
  first : ∀ c, x.cps.toList[0]? = some c → c ∉ digits
  all : ∀ c ∈ x.cps.toList, c ∈ signs
def spName (K : PySem.W.Frag) : Sp := SpQ (fun i : { x : Str // GoodName x } => [dS K i.1]) fun i m => m = dB K true
theorem ok_name {f : Addr} {fd : FuncData} (Fn : L2.Fun K "is_name" "is_name" s_is_name f fd) (T : Txt K mg CM CN CA) : FnOk P w K mg base CX0 1 f fd p_is_name (spName K) := by
  refine fun_okQ Fn sc_is_name (fun i => rfl) fun cdv A outer s H E hr => ?_
  refine ⟨_, (pss_cons (ps_if (PW.pt (pw_or (pt_not (pt_chain op_le op_le pe_int (pe_callB call_lenA (by rfl) T.b_len PySem.boot_len (pa_cons (pv 0) pa_nil)) (C8.pe_gc (by rfl) T.g_MOST_NAME_CHARS))) (pw_or1 (pt_cmpR op_inS (pe_ix ix_str (pv 0) pe_int (fun _ _ => rfl)) pe_str (by with_unfolding_all rfl))))) (pss_one (ps_ret pe_bl)) pss_nil)
      (pss_one (ps_ret (pe_callB (cr_all rfl) (by rfl) T.b_all PyProof.Rows.boot_all (pa_cons (pe_lc rfl sc_is_name.nd (pi_str (pv 0)) (blkOk_by (own := [("char", 1)]) (N := n_is_name) (sc := defScope s_is_name) (by decide +kernel)) (fun _ _ _ _ _ => (pg_name (i := 1) sc_is_name.nd rfl (Or.inl rfl))) (fun _ _ _ _ _ => pts_nil) (fun _ _ _ _ _ => (pe_cmpR op_inS (pv 1) (C8.pe_gc (by rfl) T.g_NAME_CHARS) (by with_unfolding_all rfl)))) pa_nil))))), fun i => ?_⟩
  obtain ⟨x, g⟩ := i
  show ASt K _ [some (.d (dS K x)), none] _
  have hl : x.length = x.cps.toList.length := by rw [Array.length_toList]; rfl
  have h1 := g.lo
  have h2 := g.hi
  obtain ⟨c, hc⟩ : ∃ c, x.cps.toList[0]? = some c := ⟨_, List.getElem?_eq_getElem (by omega)⟩
  refine ast_seq (ast_if (evt_or (evt_not (evt_test (evp_chain (evp_int (evp_cb (eva_cons (evp_var rfl (eva_nil (cok_lenS (by omega) (rok_b ⟨_, rfl, ?_⟩))))))))))))
  rw [decide_eq_true (by omega : (1 : Int) ≤ (x.length : Nat))]
  refine evp_int (rok_b ⟨_, rfl, ?_⟩)
  rw [decide_eq_true (by omega : ((x.length : Nat) : Int) ≤ 12)]
  refine evt_test (evp_op (evp_op (evp_var rfl (evp_int (rok_ixS (c := c) (by omega) (atI_nat (i := 0) hc) ?_)))))
  refine evp_str (rok_inS ⟨_, rfl, ?_⟩)
  have hf : c ∉ (Str.ofString "0123456789").cps.toList := g.first c hc
  rw [decide_eq_false hf]
  refine ast_next ?_
  refine ast_ret (evp_cb (eva_cons (evn_p (evn_fm (l := x.cps.toList) (enc := fun c => dS K ⟨#[c]⟩) (p := fun _ => true) (f := fun c => .bool true) (by simp) (by omega) ?_ ?_ ?_ ?_))))
  · exact evi_str (evp_var rfl ⟨x, rfl, rfl⟩)
  · exact fun a ha => evt_yes rfl
  · intro a ha _
    refine evp_op (evp_var rfl (evp_str (rok_inS ?_)))
    show dB K (decide (a ∈ signs)) = _
    rw [decide_eq_true (g.all a ha)]
  · rw [List.filter_eq_self.mpr (fun _ _ => rfl)]
    refine eva_nil ?_
    have e : x.cps.toList.map (fun _ => PyData.bool true) = (x.cps.toList.map fun _ => true).map PyData.bool := by rw [List.map_map]; rfl
    rw [e]
    refine cok_all ?_
    rw [all_yes _ _ fun _ _ => rfl]
    rfl
/-! ### are_different -/
abbrev s_are_different : Stmt := top 29
abbrev n_are_different : List Str := ["parts", "number", "part"]
abbrev p_are_different : List Str := ["parts"]
theorem sc_are_different : FnScope n_are_different p_are_different (defScope s_are_different) := ⟨rfl, rfl, rfl, by decide +kernel, rfl, by decide +kernel, by decide +kernel⟩
structure IDiff where
  ds : List PyData
  sh : ∀ d ∈ ds, Sh 60 d
  ne : ∀ (i j : Nat) (d e : PyData), ds[i]? = some d → ds[j]? = some e → j < i → PyData.eqv e d = false
  hl : ds.length ≤ 1000
def spDiff (K : PySem.W.Frag) : Sp := SpQ (fun i : IDiff => [dT K i.ds]) fun i m => m = dB K true
theorem ok_diff {f : Addr} {fd : FuncData} (Fn : L2.Fun K "are_different" "are_different" s_are_different f fd) (T : Txt K mg CM CN CA) : FnOk P w K mg base CX0 1 f fd p_are_different (spDiff K) := by
  refine fun_okQ Fn sc_are_different (fun i => rfl) fun cdv A outer s H E hr => ?_
  have hu65 := hu65_of hr
  refine ⟨_, (pss_cons (ps_for PassesOwn.never rfl (pi_enumT (by rfl) T.b_enumerate (pa_cons (pv 0) pa_nil)) (pg_tup rfl (pgs_cons (pg_name (i := 1) sc_are_different.nd rfl (Or.inl rfl)) (pgs_cons (pg_name (i := 2) sc_are_different.nd rfl (Or.inl rfl)) pgs_nil))) (pss_one (ps_if (pt_cmpR (op_inDT hu65) (pv 2) (pe_slice sl_tup (pv 0) po_none (po_some (pv 1))) (by with_unfolding_all rfl)) (pss_one (ps_ret pe_bl)) pss_nil)))
      (pss_one (ps_ret pe_bl))), fun i => ?_⟩
  obtain ⟨ds, sh, ne, hl⟩ := i
  show ASt K _ [some (.d (dT K ds)), none, none] _
  refine ast_seq (ast_for (evi_enumT (eva_cons (evp_var rfl (eva_nil ⟨ds, rfl, ?_⟩)))))
  refine ⟨fun i A' => ∃ x y, A' = [some (.d (dT K ds)), x, y], ⟨none, none, rfl⟩, ?_, ?_⟩
  · rintro i m A' hm ⟨x, y, rfl⟩
    rw [List.getElem?_map, List.getElem?_zipIdx] at hm
    cases hd : ds[i]? with
    | none => rw [hd] at hm; cases hm
    | some d =>
      rw [hd] at hm
      have em : dT K [.int ((0 + i : Nat) : Int), d] = m := Option.some.inj hm
      rw [Nat.zero_add] at em
      subst em
      have hi : i < ds.length := (List.getElem?_eq_some_iff.mp hd).1
      refine as_tup rfl rfl (asg_cons (asg_cons (asg_nil ?_)))
      refine ast_if (evt_test (evp_op (evp_var rfl (evp_sl (evp_var rfl (evo_none (evo_some (evp_var rfl ⟨_, rfl, sok_tupTo hi ?_⟩))))))))
      refine rok_inDT ((sh d (List.mem_of_getElem? hd)).shaped (by decide)) ((Sh.tup (n := 60) fun e he => sh e (List.mem_of_mem_take he)).shaped (by decide)) ⟨_, rfl, ?_⟩
      have ef : ((ds.take i).any fun z => PyData.eqv z d) = false := by
        rw [List.any_eq_false]
        intro e he
        obtain ⟨j, hj⟩ := List.mem_iff_getElem?.mp he
        rw [List.getElem?_take] at hj
        split at hj
        · rename_i hlt
          rw [ne i j d e hd hj hlt]
          decide
        · cases hj
      rw [ef]
      exact ast_next ⟨_, _, rfl⟩
  · rintro A' ⟨x, y, rfl⟩
    exact ast_ret (evp_bl rfl)
/-! ### are_hours -/
abbrev s_are_hours : Stmt := top 30
abbrev n_are_hours : List Str := ["hours", "day", "before", "opened", "closed"]
abbrev p_are_hours : List Str := ["hours", "day"]
theorem sc_are_hours : FnScope n_are_hours p_are_hours (defScope s_are_hours) := ⟨rfl, rfl, rfl, by decide +kernel, rfl, by decide +kernel, by decide +kernel⟩
/-- in order, each behind the one before -/
def Hours (day : Int) : Int → List (Int × Int) → Prop
  | _, [] => True
  | b, p :: r => b < p.1 ∧ p.1 < p.2 ∧ p.2 ≤ day ∧ Hours day p.2 r
def spHours (K : PySem.W.Frag) : Sp := SpQ (fun i : { i : List (Int × Int) × Int // i.1.length ≤ 4 ∧ Hours i.2 (-1) i.1 } => [dT K (i.1.1.map hpD), dI K i.1.2]) fun i m => m = dB K true
theorem hours_at {day : Int} : ∀ {ps : List (Int × Int)} {b : Int} {i : Nat} {p : Int × Int}, Hours day b ps → ps[i]? = some p → (if i = 0 then b else ((ps[i - 1]?).getD (0, 0)).2) < p.1 ∧ p.1 < p.2 ∧ p.2 ≤ day
  | [], _, _, _, _, e => by simp at e
  | q :: r, b, 0, p, h, e => by
    cases Option.some.inj e
    exact ⟨h.1, h.2.1, h.2.2.1⟩
  | q :: r, b, i + 1, p, h, e => by
    have ih := hours_at (ps := r) (b := q.2) (i := i) (p := p) h.2.2.2 e
    rw [if_neg (Nat.succ_ne_zero i)]
    cases i with
    | zero => exact ih
    | succ i =>
      rw [if_neg (Nat.succ_ne_zero i)] at ih
      exact ih
theorem ok_hours {f : Addr} {fd : FuncData} (Fn : L2.Fun K "are_hours" "are_hours" s_are_hours f fd) (T : Txt K mg CM CN CA) : FnOk P w K mg base CX0 1 f fd p_are_hours (spHours K) := by
  refine fun_okQ Fn sc_are_hours (fun i => rfl) fun cdv A outer s H E hr => ?_
  refine ⟨_, (pss_cons (ps_if (pt_cmpR op_gt (pe_callB call_lenA (by rfl) T.b_len PySem.boot_len (pa_cons (pv 0) pa_nil)) (C8.pe_gc (by rfl) T.g_MOST_HOURS) (nomark _)) (pss_one (ps_ret pe_bl)) pss_nil)
      (pss_cons (ps_set (i := 2) sc_are_hours.nd rfl (Or.inl rfl) (pe_un un_neg pe_int))
      (pss_cons (ps_for PassesOwn.never rfl (pi_tup (pv 0)) (pg_tup rfl (pgs_cons (pg_name (i := 3) sc_are_hours.nd rfl (Or.inl rfl)) (pgs_cons (pg_name (i := 4) sc_are_hours.nd rfl (Or.inl rfl)) pgs_nil))) (pss_cons (ps_if (pt_not (pt_chain3 op_lt op_lt op_le (pv 2) (pv 3) (pv 4) (pv 1))) (pss_one (ps_ret pe_bl)) pss_nil)
      (pss_one (ps_set (i := 2) sc_are_hours.nd rfl (Or.inl rfl) (pv 4)))))
      (pss_one (ps_ret pe_bl))))), fun i => ?_⟩
  obtain ⟨⟨ps, day⟩, hl, hh⟩ := i
  have hl : ps.length ≤ 4 := hl
  have hh : Hours day (-1) ps := hh
  show ASt K _ [some (.d (dT K (ps.map hpD))), some (.d (dI K day)), none, none, none] _
  refine ast_seq (ast_if (evt_test (evp_op (evp_cb (eva_cons (evp_var rfl (eva_nil (cok_lenT (evp_int (rok_b ⟨_, rfl, ?_⟩))))))))))
  rw [List.length_map, decide_eq_false (by omega : ¬ (4 : Int) < ((ps.length : Nat) : Int))]
  refine ast_next ?_
  refine ast_seq (ast_asg (evp_un (evp_int (uok_neg ?_))))
  refine ast_seq (ast_for (evi_tup (evp_var rfl ⟨_, rfl, ?_⟩)))
  refine ⟨fun i A' => ∃ x y, A' = [some (.d (dT K (ps.map hpD))), some (.d (dI K day)), some (.d (dI K (if i = 0 then -1 else ((ps[i - 1]?).getD (0, 0)).2))), x, y], ⟨none, none, rfl⟩, ?_, ?_⟩
  · rintro i m A' hm ⟨x, y, rfl⟩
    rw [List.map_map, List.getElem?_map] at hm
    cases hd : ps[i]? with
    | none => rw [hd] at hm; cases hm
    | some p =>
      rw [hd] at hm
      cases hm
      obtain ⟨h1, h2, h3⟩ := hours_at hh hd
      refine as_tup rfl rfl (asg_cons (asg_cons (asg_nil ?_)))
      refine ast_seq (ast_if (evt_not (evt_chain3 (evp_var rfl rfl) (evp_var rfl rfl) (evp_var rfl rfl) (evp_var rfl rfl) ?_)))
      rw [decide_eq_true h1, decide_eq_true h2, decide_eq_true h3]
      refine ast_next ?_
      refine ast_asg (evp_var rfl ⟨some (.d (dI K p.1)), some (.d (dI K p.2)), ?_⟩)
      rw [if_neg (Nat.succ_ne_zero i), Nat.add_sub_cancel, hd]
      rfl
  · rintro A' ⟨x, y, rfl⟩
    exact ast_ret (evp_bl rfl)
end Wp
/-! is_way, vital_roads. -/
namespace Wp
open PySem PySem.Spec PyProof.Rows L2
theorem nodup_len {α : Type} [DecidableEq α] : ∀ {l m : List α}, l.Nodup → (∀ x ∈ l, x ∈ m) → l.length ≤ m.length
  | [], _, _, _ => Nat.zero_le _
  | x :: l, m, h, s => by
    have hx : x ∈ m := s x List.mem_cons_self
    have h' := List.nodup_cons.mp h
    have := nodup_len (l := l) (m := m.erase x) h'.2 fun y hy => (List.mem_erase_of_ne (a := y) (b := x) (fun e : y = x => h'.1 (by rw [← e]; exact hy))).mpr (s y (List.mem_cons_of_mem _ hy))
    rw [List.length_erase_of_mem hx] at this
    have hp : 0 < m.length := List.length_pos_of_mem hx
    rw [List.length_cons]
    omega
/-- the roads that is_way may take -/
def woIn (wo : Option Str) (x : Str) : Bool := match wo with
  | none => false
  | some y => decide (x = y)
def Ch.avail (c : Ch) (kind : Str) (wo : Option Str) : List Str := (c.usable kind).filter fun x => !woIn wo x
/-- what the rows tell up to at -/
structure Way (c : Ch) (ns : List Str) (start goal : Str) (l : List Str) (at_ : Nat) : Prop where
  nd : l.Nodup
  sub : ∀ x ∈ l, x ∈ ns
  first : ∀ x ∈ ns, ∀ r, c.road? x = some r → r.start = start → x ∈ l
  done : ∀ j, j < at_ → ∀ x, l[j]? = some x → ∀ r, c.road? x = some r → r.fin ≠ goal ∧ ∀ y ∈ c.folls x r, y ∈ ns → y ∈ l
def NoWay (c : Ch) (ns : List Str) (start goal : Str) : Prop := ∃ l, Way c ns start goal l l.length
variable {P : Program} {w : World} {K : PySem.W.Frag} {mg : Str → Option Value} {base : Heap} {CM CN CA : Addr}
abbrev s_is_way : Stmt := top 15
abbrev n_is_way : List Str := ["chart", "kind", "start", "goal", "without", "names", "name", "rows", "at", "other"]
abbrev p_is_way : List Str := ["chart", "kind", "start", "goal", "without"]
theorem sc_is_way : FnScope n_is_way p_is_way (defScope s_is_way) := ⟨rfl, rfl, rfl, by decide +kernel, rfl, by decide +kernel, by decide +kernel⟩
structure IWay where
  c : Ch
  kind : Str
  start : Str
  goal : Str
  wo : Option Str
  ok : c.Ok
def woM (K : PySem.W.Frag) : Option Str → MP
  | none => dT K []
  | some y => dL K [.str y]
def spWay (K : PySem.W.Frag) (CM : Addr) : Sp := SpQ (fun i : IWay => [chM K CM i.c, dS K i.kind, dS K i.start, dS K i.goal, woM K i.wo]) fun i m => ∃ b, m = dB K b ∧ (b = false → NoWay i.c (i.c.avail i.kind i.wo) i.start i.goal)
theorem usable_road {c : Ch} (ok : c.Ok) {kind x : Str} (h : x ∈ c.usable kind) : ∃ r, r ∈ c.roads ∧ r.name = x ∧ c.road? x = some r := by
  unfold Ch.usable at h
  obtain ⟨r, hr, rfl⟩ := List.mem_map.mp h
  exact ⟨r, (List.mem_filter.mp hr).1, rfl, road_of ok.nd (List.mem_filter.mp hr).1⟩
theorem usable_len (c : Ch) (kind : Str) : (c.usable kind).length ≤ c.roads.length := by
  unfold Ch.usable
  rw [List.length_map]
  exact List.length_filter_le _ _
theorem filter_ids (l : List Str) : (l.map PyData.str) = sds l := rfl
theorem ok_way {f : Addr} {fd : FuncData} {dvs : List V} {kws : List (Str × V)} (Fn : FunD K "is_way" "is_way" (defArgs s_is_way) (defBody s_is_way) (defScope s_is_way) dvs kws f fd) (T : Txt K mg CM CN CA) (c_usable : C8.Cal P w K mg base 3 "usable" (spUsable K CM) [])
    (c_Map_road : C8.Met P w K mg base 1 CM "road" (spRoad K CM) []) (c_Map_followers : C8.Met P w K mg base 3 CM "followers" (spFol K CM) []) : FnOk P w K mg base CX0 4 f fd p_is_way (spWay K CM) := by
  refine fund_okQ Fn sc_is_way (fun i => rfl) fun cdv A outer s H E hr => ?_
  refine ⟨_, (pss_cons (ps_setLc (i := 5) rfl sc_is_way.nd rfl rfl (sw_true rfl rfl rfl (by decide +kernel)) (pi_list (C8.pe_c c_usable hr (by decide) (by rfl) (pa_cons (pv 0) (pa_cons (pv 1) pa_nil)))) (blkOk_by (own := [("name", 6)]) (N := n_is_way) (sc := defScope s_is_way) (by decide +kernel)) (fun _ _ _ _ _ => (pg_name (i := 6) sc_is_way.nd rfl (Or.inl rfl))) (fun _ _ _ _ _ => (pts_one (pt_cmpR (show OpR _ _ (rIn K true) from op_notIn_seq) (pv 6) (pv 4) (by with_unfolding_all rfl)))) (fun _ _ _ _ _ => (pv 6)))
      (pss_cons (ps_setLc (i := 7) rfl sc_is_way.nd rfl rfl (sw_true rfl rfl rfl (by decide +kernel)) (pi_list (pv 5)) (blkOk_by (own := [("name", 6)]) (N := n_is_way) (sc := defScope s_is_way) (by decide +kernel)) (fun _ _ _ _ _ => (pg_name (i := 6) sc_is_way.nd rfl (Or.inl rfl))) (fun _ _ _ _ _ => (pts_one (pt_cmpR op_eq (pe_ix (show IxR _ (rIxT K) from ix_tup) (C8.pe_mt c_Map_road hr (by decide) (pv 0) (pa_cons (pv 6) pa_nil)) pe_int (fun _ _ => rfl)) (pv 2) (nomark _)))) (fun _ _ _ _ _ => (pv 6)))
      (pss_cons (ps_set (i := 8) sc_is_way.nd rfl (Or.inl rfl) pe_int)
      (pss_cons (ps_while PassesOwn.never (pt_cmpR op_lt (pv 8) (pe_callB call_lenA (by rfl) T.b_len PySem.boot_len (pa_cons (pv 7) pa_nil)) (nomark _)) (pss_cons (ps_if (pt_cmpR op_eq (pe_ix ix_tup (C8.pe_mt c_Map_road hr (by decide) (pv 0) (pa_cons (pe_ix ix_list (pv 7) (pv 8) (fun _ _ => rfl)) pa_nil)) pe_int (fun _ _ => rfl)) (pv 3) (nomark _)) (pss_one (ps_ret pe_bl)) pss_nil)
      (pss_cons (ps_for PassesOwn.never rfl (pi_list (C8.pe_mt c_Map_followers hr (by decide) (pv 0) (pa_cons (pe_ix ix_list (pv 7) (pv 8) (fun _ _ => rfl)) pa_nil))) (pg_name (i := 9) sc_is_way.nd rfl (Or.inl rfl)) (pss_one (ps_if (PW.pt (pw_and (pt_cmpR op_in_seq (pv 9) (pv 5) (by with_unfolding_all rfl)) (pw_and1 (pt_cmpR op_notIn_seq (pv 9) (pv 7) (by with_unfolding_all rfl))))) (pss_one (ps_expr (pe_bm PySem.F.plainAttrs_list PySem.F.slot_list_append PySem.F.type_list_append mt_append (pv 7) (pa_cons (pv 9) pa_nil)))) pss_nil)))
      (pss_one (ps_aug (i := 8) sc_is_way.nd rfl (Or.inl rfl) pe_int ip_add)))))
      (pss_one (ps_ret pe_bl)))))), fun i => ?_⟩
  obtain ⟨c, kind, start, goal, wo, ok⟩ := i
  have few := ok.few
  have ul := usable_len c kind
  show ASt K _ [some (.d (chM K CM c)), some (.d (dS K kind)), some (.d (dS K start)), some (.d (dS K goal)), some (.d (woM K wo)), none, none, none, none, none] _
  -- names
  refine ast_seq (ast_asgN (evn_fm (l := c.usable kind) (enc := fun x => dS K x) (p := fun x => !woIn wo x) (f := fun x => .str x) (by simp) (by omega) ?_ ?_ ?_ ?_))
  · exact evi_list (evp_callQ (eva_cons (evp_var rfl (eva_cons (evp_var rfl (eva_nil ⟨⟨(c, kind), ok.nd, Nat.le_trans few (by decide)⟩, rfl, fun m em => ⟨_, em, by rw [List.map_map]; rfl⟩⟩))))))
  · intro x hx
    cases wo with
    | none => exact evt_test (evp_op (evp_var rfl (evp_var rfl (rok_niT (xs := []) ⟨_, rfl, by simp [woIn]⟩))))
    | some y => exact evt_test (evp_op (evp_var rfl (evp_var rfl (rok_niL (xs := [y]) ⟨_, rfl, by simp [woIn]⟩))))
  · exact fun x hx _ => evp_var rfl rfl
  refine ast_freeze (i := 5) rfl ?_
  have ens : ((c.usable kind).filter fun x => !woIn wo x) = c.avail kind wo := rfl
  rw [ens]
  have nsub : ∀ x ∈ c.avail kind wo, x ∈ c.usable kind := fun x hx => (List.mem_filter.mp hx).1
  have nlen : (c.avail kind wo).length ≤ 8 := Nat.le_trans (List.length_filter_le _ _) (by omega)
  have nnd : (c.avail kind wo).Nodup := by
    refine List.Pairwise.filter _ ?_
    unfold Ch.usable
    exact List.Pairwise.sublist (List.Sublist.map _ List.filter_sublist) ok.nd
  generalize c.avail kind wo = ns at nsub nlen nnd
  show ASt K _ [some (.d (chM K CM c)), some (.d (dS K kind)), some (.d (dS K start)), some (.d (dS K goal)), some (.d (woM K wo)), some (.d (dL K (sds ns))), none, none, none, none] _
  -- rows
  refine ast_seq (ast_asgN (evn_fm (l := ns) (enc := fun x => dS K x) (p := fun x => decide (((c.road? x).map Rd.start) = some start)) (f := fun x => .str x) (by simp) (by omega) ?_ ?_ ?_ ?_))
  · exact evi_list (evp_var rfl ⟨_, rfl, by rw [List.map_map]; rfl⟩)
  · intro x hx
    obtain ⟨r, hr1, hr2, hr3⟩ := usable_road ok (nsub x hx)
    refine evt_test (evp_op (evp_op (evp_methQ (evp_var rfl ⟨ins_ok rfl, eva_cons (evp_var rfl (eva_nil ⟨⟨c, x, r, hr3⟩, rfl, fun m em => ?_⟩))⟩))))
    subst em
    refine evp_int (rok_ixT (d := .str r.start) rfl (evp_var rfl (rok_eqS ⟨_, rfl, ?_⟩)))
    rw [hr3]
    simp
  · exact fun x hx _ => evp_var rfl rfl
  refine ast_seq (ast_asg (evp_int ?_))
  generalize hl0 : (ns.filter fun x => decide (((c.road? x).map Rd.start) = some start)) = l0
  have w0 : Way c ns start goal l0 0 := by
    subst hl0
    refine ⟨List.Pairwise.filter _ nnd, fun x hx => (List.mem_filter.mp hx).1, fun x hx r hr hs => List.mem_filter.mpr ⟨hx, ?_⟩, fun j h => absurd h (Nat.not_lt_zero _)⟩
    rw [hr]
    simp [hs]
  show ASt K _ [some (.d (chM K CM c)), some (.d (dS K kind)), some (.d (dS K start)), some (.d (dS K goal)), some (.d (woM K wo)), some (.d (dL K (sds ns))), none, some (.own (.lst (sds l0))), some (.d (dI K 0)), none] _
  -- the walk
  refine ast_seq (ast_while (fun n A' => ∃ (l : List Str) (at_ : Nat) (z : Option Sl), n = 8 - at_ ∧ at_ ≤ l.length ∧ Way c ns start goal l at_ ∧
    A' = [some (.d (chM K CM c)), some (.d (dS K kind)), some (.d (dS K start)), some (.d (dS K goal)), some (.d (woM K wo)), some (.d (dL K (sds ns))), none, some (.own (.lst (sds l))), some (.d (dI K (at_ : Nat))), z]) 8 ⟨l0, 0, none, rfl, Nat.zero_le _, w0, rfl⟩ ?_)
  rintro n A' ⟨l, at_, z, rfl, hat, hw, rfl⟩
  have hll : l.length ≤ 8 := Nat.le_trans (nodup_len hw.nd hw.sub) nlen
  have slen : (sds l).length = l.length := List.length_map _
  refine evt_thaw (i := 7) rfl (evt_test (evp_op (evp_var rfl (evp_cb (eva_cons (evp_var rfl (eva_nil (cok_lenL (rok_b ⟨_, rfl, ?_⟩)))))))))
  rw [slen]
  by_cases hlt : at_ < l.length
  · rw [decide_eq_true (by omega : (at_ : Int) < ((l.length : Nat) : Int))]
    obtain ⟨x, hx⟩ : ∃ x, l[at_]? = some x := ⟨_, List.getElem?_eq_getElem hlt⟩
    have hxl : x ∈ l := List.mem_of_getElem? hx
    have hsx : (sds l)[at_]? = some (.str x) := by unfold sds; rw [List.getElem?_map, hx]; rfl
    obtain ⟨r, hr1, hr2, hr3⟩ := usable_road ok (nsub x (hw.sub x hxl))
    refine ast_seq (ast_if (evt_test (evp_op (evp_op (evp_methQ (evp_var rfl ⟨ins_ok rfl, eva_cons (evp_thaw (i := 7) rfl (evp_op (evp_var rfl (evp_var rfl (rok_ixL (d := .str x) (atI_nat hsx) ⟨.str x, rfl, rfl, eva_nil ⟨⟨c, x, r, hr3⟩, rfl, fun m em => ?_⟩⟩)))))⟩))))))
    subst em
    refine evp_int (rok_ixT (d := .str r.fin) rfl (evp_var rfl (rok_eqS ⟨_, rfl, ?_⟩)))
    by_cases hg : r.fin = goal
    · rw [decide_eq_true hg]
      exact ast_ret (evp_bl ⟨true, rfl, fun e => nomatch e⟩)
    · rw [decide_eq_false hg]
      refine ast_next ?_
      have tokx : TOk x := hr2 ▸ ok.tok r hr1
      refine ast_seq (ast_for (evi_list (evp_methQ (evp_var rfl ⟨ins_ok rfl, eva_cons (evp_thaw (i := 7) rfl (evp_op (evp_var rfl (evp_var rfl (rok_ixL (d := .str x) (atI_nat hsx) ⟨.str x, rfl, rfl, eva_nil ⟨⟨c, x, r, hr3, ok.fin r hr1, by omega, tokx, ok.tok, ok.btok⟩, rfl, fun m em => ⟨_, em, ?_⟩⟩⟩)))))⟩))))
      refine ⟨fun i A2 => ∃ (t : List Str) (z : Option Sl), Way c ns start goal (l ++ t) at_ ∧ (∀ j, j < i → ∀ y, (c.folls x r)[j]? = some y → y ∈ ns → y ∈ l ++ t) ∧
        A2 = [some (.d (chM K CM c)), some (.d (dS K kind)), some (.d (dS K start)), some (.d (dS K goal)), some (.d (woM K wo)), some (.d (dL K (sds ns))), none, some (.own (.lst (sds (l ++ t)))), some (.d (dI K (at_ : Nat))), z],
        ⟨[], z, by rw [List.append_nil]; exact hw, fun j h => absurd h (Nat.not_lt_zero _), by rw [List.append_nil]⟩, ?_, ?_⟩
      · rintro i m A2 hm ⟨t, z2, hw2, hcl, rfl⟩
        have hll2 : (l ++ t).length ≤ 8 := Nat.le_trans (nodup_len hw2.nd hw2.sub) nlen
        rw [List.map_map, List.getElem?_map] at hm
        cases hy : (c.folls x r)[i]? with
        | none => rw [hy] at hm; cases hm
        | some y =>
          rw [hy] at hm
          cases hm
          refine as_name (ast_if (evt_and (evt_test (evp_op (evp_var rfl (evp_var rfl (rok_inL ⟨_, rfl, ?_⟩)))))))
          have next : ∀ (t' : List Str) (z : Option Sl), Way c ns start goal (l ++ t') at_ → (∀ q ∈ l ++ t, q ∈ l ++ t') → (y ∈ ns → y ∈ l ++ t') → ∃ (t : List Str) (z' : Option Sl), Way c ns start goal (l ++ t) at_ ∧ (∀ j, j < i + 1 → ∀ y, (c.folls x r)[j]? = some y → y ∈ ns → y ∈ l ++ t) ∧
            [some (.d (chM K CM c)), some (.d (dS K kind)), some (.d (dS K start)), some (.d (dS K goal)), some (.d (woM K wo)), some (.d (dL K (sds ns))), none, some (.own (.lst (sds (l ++ t')))), some (.d (dI K (at_ : Nat))), z] =
            [some (.d (chM K CM c)), some (.d (dS K kind)), some (.d (dS K start)), some (.d (dS K goal)), some (.d (woM K wo)), some (.d (dL K (sds ns))), none, some (.own (.lst (sds (l ++ t)))), some (.d (dI K (at_ : Nat))), z'] := by
            intro t' z hw3 sub' hy'
            refine ⟨t', z, hw3, fun j hj q hq hqn => ?_, rfl⟩
            rcases Nat.lt_succ_iff_lt_or_eq.mp hj with h | h
            · exact sub' q (hcl j h q hq hqn)
            · subst h
              rw [hy] at hq
              cases hq
              exact hy' hqn
          by_cases hyn : y ∈ ns
          · rw [decide_eq_true hyn]
            refine evt_thaw (i := 7) rfl (evt_test (evp_op (evp_var rfl (evp_var rfl (rok_niL ⟨_, rfl, ?_⟩)))))
            by_cases hyl : y ∈ l ++ t
            · rw [decide_eq_true hyl]
              exact ast_next (next t _ hw2 (fun q h => h) fun _ => hyl)
            · rw [decide_eq_false hyl]
              refine ast_append (i := 7) rfl (by have : (sds (l ++ t)).length = (l ++ t).length := List.length_map _; omega) (evp_var rfl ⟨.str y, rfl, ?_⟩)
              have e1 : sds (l ++ t) ++ [PyData.str y] = sds (l ++ (t ++ [y])) := by
                unfold sds
                rw [← List.append_assoc, List.map_append (l₁ := l ++ t)]
                rfl
              rw [e1]
              refine next (t ++ [y]) _ ⟨?_, ?_, ?_, ?_⟩ ?_ ?_
              · rw [← List.append_assoc, List.nodup_append]
                refine ⟨hw2.nd, by simp, fun a ha b hb e => ?_⟩
                rw [List.mem_singleton.mp hb] at e
                exact hyl (e ▸ ha)
              · intro q hq
                rw [← List.append_assoc] at hq
                rcases List.mem_append.mp hq with h | h
                · exact hw2.sub q h
                · rw [List.mem_singleton.mp h]
                  exact hyn
              · intro q hq r' h1 h2
                rw [← List.append_assoc]
                exact List.mem_append_left _ (hw2.first q hq r' h1 h2)
              · intro j hj q hq r' h1
                rw [← List.append_assoc] at hq
                have hjl : j < (l ++ t).length := by rw [List.length_append]; omega
                rw [List.getElem?_append_left hjl] at hq
                obtain ⟨h3, h4⟩ := hw2.done j hj q hq r' h1
                exact ⟨h3, fun y' hy' hn' => by rw [← List.append_assoc]; exact List.mem_append_left _ (h4 y' hy' hn')⟩
              · intro q hq
                rw [← List.append_assoc]
                exact List.mem_append_left _ hq
              · intro _
                rw [← List.append_assoc]
                exact List.mem_append_right _ (List.mem_singleton.mpr rfl)
          · rw [decide_eq_false hyn]
            exact ast_next (next t _ hw2 (fun q h => h) fun h => absurd h hyn)
      · rintro A2 ⟨t, z2, hw2, hcl, rfl⟩
        have hll2 : (l ++ t).length ≤ 8 := Nat.le_trans (nodup_len hw2.nd hw2.sub) nlen
        refine ast_aug (i := 8) rfl (evp_int ⟨1, rfl, ?_⟩)
        refine ⟨8 - (at_ + 1), by omega, l ++ t, at_ + 1, z2, rfl, by rw [List.length_append]; omega, ⟨hw2.nd, hw2.sub, hw2.first, fun j hj q hq r' h1 => ?_⟩, ?_⟩
        · rcases Nat.lt_succ_iff_lt_or_eq.mp hj with h | h
          · exact hw2.done j h q hq r' h1
          · subst h
            rw [List.getElem?_append_left hlt, hx] at hq
            cases hq
            rw [hr3] at h1
            cases h1
            refine ⟨hg, fun y hy hyn => ?_⟩
            obtain ⟨k, hk⟩ := List.mem_iff_getElem?.mp hy
            refine hcl k ?_ y hk hyn
            rw [List.length_map, List.length_map]
            exact (List.getElem?_eq_some_iff.mp hk).1
        · show List.set _ 8 _ = _
          rfl
  · rw [decide_eq_false (by omega : ¬ (at_ : Int) < ((l.length : Nat) : Int))]
    have e : at_ = l.length := by omega
    subst e
    exact ast_ret (evp_bl ⟨false, rfl, fun _ => ⟨l, hw⟩⟩)
end Wp
/-! vital_roads, road_behind, routes_of. -/
namespace Wp
open PySem PySem.Spec PyProof.Rows L2
variable {P : Program} {w : World} {K : PySem.W.Frag} {mg : Str → Option Value} {base : Heap} {CM CN CA : Addr}
abbrev s_vital_roads : Stmt := top 16
abbrev n_vital_roads : List Str := ["chart", "kind", "start", "goal", "name"]
abbrev p_vital_roads : List Str := ["chart", "kind", "start", "goal"]
theorem sc_vital_roads : FnScope n_vital_roads p_vital_roads (defScope s_vital_roads) := ⟨rfl, rfl, rfl, by decide +kernel, rfl, by decide +kernel, by decide +kernel⟩
structure IVit extends IEnds where
  ok : c.Ok
def spVital (K : PySem.W.Frag) (CM : Addr) : Sp := SpQ (fun i : IVit => [chM K CM i.c, dS K i.kind, dS K i.start, dS K i.goal]) fun i m => (m = dN K ∧ NoWay i.c (i.c.avail i.kind none) i.start i.goal) ∨ ∃ vs, m = dL K (sds vs) ∧ vs.length ≤ 100 ∧ ∀ x ∈ vs, NoWay i.c (i.c.avail i.kind (some x)) i.start i.goal
theorem ok_vital {f : Addr} {fd : FuncData} (Fn : L2.Fun K "vital_roads" "vital_roads" s_vital_roads f fd) (c_usable : C8.Cal P w K mg base 3 "usable" (spUsable K CM) []) (c_check_ends : C8.Cal P w K mg base 2 "check_ends" (spEnds K CM) [])
    {dv : V} (hdv : ∀ F, (dT K []).P F dv) (c_is_way0 : C8.Cal P w K mg base 4 "is_way" (spWay K CM) [dv]) (c_is_way : CalN P w K mg base 4 "is_way" 4 ["without"] (spWay K CM) (fun vs zs => vs ++ zs)) : FnOk P w K mg base CX0 5 f fd p_vital_roads (spVital K CM) := by
  refine fun_okQ Fn sc_vital_roads (fun i => rfl) fun cdv A outer s H E hr => ?_
  refine ⟨_, (pss_cons (ps_expr (C8.pe_c c_check_ends hr (by decide) (by rfl) (pa_cons (pv 0) (pa_cons (pv 1) (pa_cons (pv 2) (pa_cons (pv 3) pa_nil))))))
      (pss_cons (ps_if (pt_not (pt_val (C8.pe_c c_is_way0 hr (by decide) (by rfl) (pa_cons (pv 0) (pa_cons (pv 1) (pa_cons (pv 2) (pa_cons (pv 3) pa_nil))))))) (pss_one (ps_ret pe_non)) pss_nil)
      (pss_one (ps_ret (pe_lc rfl sc_vital_roads.nd (pi_list (C8.pe_c c_usable hr (by decide) (by rfl) (pa_cons (pv 0) (pa_cons (pv 1) pa_nil)))) (blkOk_by (own := [("name", 4)]) (N := n_vital_roads) (sc := defScope s_vital_roads) (by decide +kernel)) (fun _ _ _ _ _ => (pg_name (i := 4) sc_vital_roads.nd rfl (Or.inl rfl))) (fun _ _ _ _ _ => (pts_one (pt_not (pt_val (c_is_way.pe hr (by decide) (by rfl) (pa_cons (pv 0) (pa_cons (pv 1) (pa_cons (pv 2) (pa_cons (pv 3) pa_nil)))) (pk_cons (pe_lst (pa_cons (pv 4) pa_nil)) pk_nil)))))) (fun _ _ _ _ _ => (pv 4))))))), fun i => ?_⟩
  obtain ⟨⟨c, kind, start, goal, hk, hs, hg, ne⟩, ok⟩ := i
  have few : c.roads.length ≤ 8 := ok.few
  have ul := usable_len c kind
  show ASt K _ [some (.d (chM K CM c)), some (.d (dS K kind)), some (.d (dS K start)), some (.d (dS K goal)), none] _
  refine ast_seq (ast_drop (evp_callQ (eva_v4 rfl rfl rfl rfl ⟨⟨c, kind, start, goal, hk, hs, hg, ne⟩, rfl, fun m _ => ?_⟩)))
  refine ast_seq (ast_if (evt_not (evt_B (evp_callQD (dms := [dT K []]) (fun F => .cons (hdv F) .nil) (eva_v4 rfl rfl rfl rfl ⟨⟨c, kind, start, goal, none, ok⟩, rfl, fun m hm => ?_⟩)))))
  obtain ⟨b, em, hb⟩ := hm
  refine ⟨b, em, ?_⟩
  cases b with
  | false => exact ast_ret (evp_non (.inl ⟨rfl, hb rfl⟩))
  | true =>
    refine ast_next ?_
    refine ast_ret (evn_p (evn_lc (by simp) (evi_list (evp_callQ (eva_v2 rfl rfl ⟨⟨(c, kind), ok.nd, Nat.le_trans few (by decide)⟩, rfl, fun m em => ⟨_, em, ?_⟩⟩)))))
    refine ⟨by rw [List.length_map, List.length_map]; show (c.usable kind).length ≤ 50000; omega, fun i acc => ∃ vs, acc = sds vs ∧ vs.length ≤ i ∧ ∀ x ∈ vs, NoWay c (c.avail kind (some x)) start goal, ⟨[], rfl, Nat.le_refl _, fun x h => by cases h⟩, ?_, ?_⟩
    · rintro i m acc hm ⟨vs, rfl, hvl, hv⟩
      rw [List.map_map, List.getElem?_map] at hm
      cases hx : (c.usable kind)[i]? with
      | none => rw [hx] at hm; cases hm
      | some x =>
        rw [hx] at hm
        cases hm
        refine evt_not (evt_B (evp_callnQ (fun ms ns => ms ++ ns) (fun F vs ms us ns _ _ p q => mps_app p q) (eva_v4 rfl rfl rfl rfl ?_)))
        refine eva_cons (evn_p (evn_lst (eva_cons (evp_var rfl (eva_nil ⟨[.str x], rfl, by simp, ?_⟩)))))
        refine eva_nil ⟨rfl, rfl, ⟨c, kind, start, goal, some x, ok⟩, rfl, fun m hm => ?_⟩
        obtain ⟨b, em, hb⟩ := hm
        refine ⟨b, em, ?_⟩
        cases b with
        | true => exact ⟨vs, rfl, by omega, hv⟩
        | false =>
          refine evp_var rfl ⟨.str x, rfl, vs ++ [x], ?_, by rw [List.length_append, List.length_singleton]; omega, fun y hy => ?_⟩
          · unfold sds; rw [List.map_append]; rfl
          · rcases List.mem_append.mp hy with h | h
            · exact hv y h
            · rw [List.mem_singleton.mp h]
              exact hb rfl
    · rintro acc ⟨vs, rfl, hvl, hv⟩
      rw [List.length_map, List.length_map] at hvl
      have hvl : vs.length ≤ (c.usable kind).length := hvl
      exact .inr ⟨vs, rfl, by omega, hv⟩
/-! ### points -/
def inn (x : Str) : NK := .tup [.text "in", .text x]
def out (x : Str) : NK := .tup [.text "out", .text x]
def pStart : NK := .text "start"
def pGoal : NK := .text "goal"
inductive IsPt : NK → Prop
  | start : IsPt pStart
  | goal : IsPt pGoal
  | inn (x : Str) : IsPt (inn x)
  | out (x : Str) : IsPt (out x)
theorem depth_pt {p : NK} (h : IsPt p) : p.depth ≤ 2 := by
  cases h <;> simp [pStart, pGoal, inn, out, NestedKey.depth, NestedKey.depthAll]
theorem okk_pt {p : NK} (h : IsPt p) : Okk p := by
  refine ⟨Nat.le_trans (depth_pt h) (by decide), ?_⟩
  cases h
  · exact .inl ⟨_, rfl⟩
  · exact .inl ⟨_, rfl⟩
  · exact .inr ⟨_, rfl⟩
  · exact .inr ⟨_, rfl⟩
theorem okk_pr {p q : NK} (hp : IsPt p) (hq : IsPt q) : Okk (pr p q) := by
  refine ⟨?_, .inr ⟨_, rfl⟩⟩
  have h1 := depth_pt hp
  have h2 := depth_pt hq
  simp only [pr, NestedKey.depth, NestedKey.depthAll]
  omega
theorem inn_data (x : Str) : (inn x).data = .tuple [.str "in", .str x] := by simp [inn, NestedKey.data, NestedKey.datas]
theorem out_data (x : Str) : (out x).data = .tuple [.str "out", .str x] := by simp [out, NestedKey.data, NestedKey.datas]
theorem start_data : pStart.data = .str "start" := by simp [pStart, NestedKey.data]
theorem goal_data : pGoal.data = .str "goal" := by simp [pGoal, NestedKey.data]
theorem pr_data (p q : NK) : (pr p q).data = .tuple [p.data, q.data] := by simp [pr, NestedKey.data, NestedKey.datas]
theorem pr_dat (K : PySem.W.Frag) (p q : NK) : dT K [p.data, q.data] = dat K (pr p q).data := by rw [pr_data]
def flow (lf : LF) (p q : NK) : Int := (lf (pr p q)).getD 0
def optD : Option Str → PyData
  | none => .none
  | some x => .str x
/-! ### road_behind -/
def behind (lf : LF) (ns : List Str) (x : Str) : Option Str := ns.find? fun y => decide (0 < flow lf (inn y) (out x))
abbrev s_road_behind : Stmt := top 12
abbrev n_road_behind : List Str := ["net", "names", "name", "other"]
abbrev p_road_behind : List Str := ["net", "names", "name"]
theorem sc_road_behind : FnScope n_road_behind p_road_behind (defScope s_road_behind) := ⟨rfl, rfl, rfl, by decide +kernel, rfl, by decide +kernel, by decide +kernel⟩
structure INet where
  lf : LF
  ah : NK → Option (List NK)
  n : Nat
  hn : n < 100000
abbrev INet.m (K : PySem.W.Frag) (w : World) (CN : Addr) (i : INet) : MP := netP K w CN i.lf i.ah i.n
def spBehind (K : PySem.W.Frag) (w : World) (CN : Addr) : Sp := SpQ (fun i : INet × List Str × Str => [i.1.m K w CN, dL K (sds i.2.1), dS K i.2.2]) fun i m => m = dat K (optD (behind i.1.lf i.2.1 i.2.2))
section
variable {A : AS} {te : TE} {P : MP → Prop}
/-- the tuple ('in', x) written out -/
theorem evp_pt {c : Str} {x : Str} {te : TE} (h : EvP K te A fun m => m = dS K x ∧ P (dT K [.str c, .str x])) : EvP K (tTup (tCons (tC (.str c)) (tCons te tNil))) A P :=
  evp_tup (eva_cons (evp_str (eva_cons (h.mono fun m ⟨e, q⟩ => eva_nil ⟨[.str c, .str x], by rw [e]; rfl, by simp, q⟩))))
end
theorem find_first {α : Type} {l : List α} {p : α → Bool} : ∀ {i : Nat} {x : α}, l[i]? = some x → p x = true → (∀ j, j < i → ∀ y, l[j]? = some y → p y = false) → l.find? p = some x := by
  induction l with
  | nil => intro i x h; simp at h
  | cons a l ih =>
    intro i x h e hn
    cases i with
    | zero =>
      cases Option.some.inj h
      rw [List.find?_cons, e]
    | succ i =>
      rw [List.find?_cons, hn 0 (Nat.succ_pos _) a rfl]
      exact ih h e fun j hj y hy => hn (j + 1) (Nat.succ_lt_succ hj) y hy
theorem find_none' {α : Type} {l : List α} {p : α → Bool} (h : ∀ j, j < l.length → ∀ y, l[j]? = some y → p y = false) : l.find? p = none := by
  rw [List.find?_eq_none]
  intro y hy
  obtain ⟨j, hj⟩ := List.mem_iff_getElem?.mp hy
  rw [h j (List.getElem?_eq_some_iff.mp hj).1 y hj]
  decide
theorem getD_flow (K : PySem.W.Frag) (lf : LF) (k : NK) : (((lf k).map (dI K)).getD (dI K 0)) = dI K ((lf k).getD 0) := by
  cases lf k <;> rfl
theorem ok_behind {f : Addr} {fd : FuncData} (Fn : L2.Fun K "road_behind" "road_behind" s_road_behind f fd) (T : Txt K mg CM CN CA) : FnOk P w K mg base CX0 1 f fd p_road_behind (spBehind K w CN) := by
  refine fun_okQ Fn sc_road_behind (fun i => rfl) fun cdv A outer s H E hr => ?_
  have hu64 := hu64_of hr
  refine ⟨_, (pss_cons (ps_for PassesOwn.never rfl (pi_list (pv 1)) (pg_name (i := 3) sc_road_behind.nd rfl (Or.inl rfl)) (pss_one (ps_if (pt_cmpR op_gt (pe_nm PySem.F.plainAttrs_dict PySem.F.slot_dict_get PySem.F.type_dict_get (mt_nget hu64) (pe_fld (pv 0) rfl) (pa_cons (pe_tup (pa_cons (pe_tup (pa_cons pe_str (pa_cons (pv 3) pa_nil))) (pa_cons (pe_tup (pa_cons pe_str (pa_cons (pv 2) pa_nil))) pa_nil))) (pa_cons pe_int pa_nil))) pe_int (nomark _)) (pss_one (ps_ret (pv 3))) pss_nil)))
      (pss_one (ps_ret pe_non))), fun i => ?_⟩
  obtain ⟨⟨lf, ah, n, hn⟩, ns, x⟩ := i
  show ASt K _ [some (.d (netP K w CN lf ah n)), some (.d (dL K (sds ns))), some (.d (dS K x)), none] _
  refine ast_seq (ast_for (evi_list (evp_var rfl ⟨_, rfl, ?_⟩)))
  refine ⟨fun i A' => ∃ z, A' = [some (.d (netP K w CN lf ah n)), some (.d (dL K (sds ns))), some (.d (dS K x)), z] ∧ ∀ j, j < i → ∀ y, ns[j]? = some y → decide (0 < flow lf (inn y) (out x)) = false, ⟨none, rfl, fun j h => absurd h (Nat.not_lt_zero _)⟩, ?_, ?_⟩
  · rintro i m A' hm ⟨z, rfl, hno⟩
    rw [List.map_map, List.getElem?_map] at hm
    cases hy : ns[i]? with
    | none => rw [hy] at hm; cases hm
    | some y =>
      rw [hy] at hm
      cases hm
      refine as_name (ast_if (evt_test (evp_op (evp_nget (f := fun k => (lf k).map (dI K)) (n := n) (k := pr (inn y) (out x)) (m := dI K 0) (Nat.le_of_lt hn) (okk_pr (.inn y) (.out x)) (evp_fld (evp_var rfl ⟨CN, _, _, rfl, T.clN, T.n_left, rfl, rfl, ?_⟩))))))
      refine eva_cons (evp_tup (eva_cons (evp_pt (evp_var rfl ⟨rfl, eva_cons (evp_pt (evp_var rfl ⟨rfl, eva_nil ⟨[(inn y).data, (out x).data], by rw [inn_data, out_data]; rfl, by simp, ?_⟩⟩))⟩))))
      rw [pr_dat]
      refine eva_cons (evp_int (eva_nil ⟨rfl, ?_⟩))
      rw [getD_flow]
      refine evp_int (rok_b ⟨_, rfl, ?_⟩)
      show if decide (0 < flow lf (inn y) (out x)) = true then _ else _
      by_cases hp : 0 < flow lf (inn y) (out x)
      · rw [decide_eq_true hp]
        refine ast_ret (evp_var rfl ?_)
        show _ = dat K (optD (behind lf ns x))
        rw [show behind lf ns x = some y from find_first hy (decide_eq_true hp) hno]
        rfl
      · rw [decide_eq_false hp]
        refine ast_next ⟨_, rfl, fun j hj q hq => ?_⟩
        rcases Nat.lt_succ_iff_lt_or_eq.mp hj with h | h
        · exact hno j h q hq
        · subst h
          rw [hy] at hq
          cases hq
          exact decide_eq_false hp
  · rintro A' ⟨z, rfl, hno⟩
    refine ast_ret (evp_non ?_)
    show _ = dat K (optD (behind lf ns x))
    rw [show behind lf ns x = none from find_none' fun j hj => hno j (by rw [List.length_map, List.length_map]; exact hj)]
    rfl
/-! ### routes_of -/
def backF (lf : LF) (x : Str) : Bool := flow lf pGoal (out x) == 0
/-- the chain from x, of at most k roads -/
inductive Ends (lf : LF) (ns : List Str) : Nat → Str → Prop
  | stop {k : Nat} {x : Str} : behind lf ns x = none ∨ backF lf x = false → Ends lf ns k x
  | go {k : Nat} {x y : Str} : behind lf ns x = some y → Ends lf ns k y → Ends lf ns (k + 1) x
abbrev s_routes_of : Stmt := top 13
abbrev n_routes_of : List Str := ["net", "names", "firsts", "routes", "first", "route", "following"]
abbrev p_routes_of : List Str := ["net", "names", "firsts"]
theorem sc_routes_of : FnScope n_routes_of p_routes_of (defScope s_routes_of) := ⟨rfl, rfl, rfl, by decide +kernel, rfl, by decide +kernel, by decide +kernel⟩
structure IRts where
  i : INet
  ns : List Str
  fs : List Str
  key : ∀ x ∈ fs, i.lf (pr (inn x) pStart) ≠ none
  ends : ∀ x ∈ fs, 0 < flow i.lf (inn x) pStart → Ends i.lf ns 50 x
  few : fs.length ≤ 50
def posF (lf : LF) (x : Str) : Bool := decide (0 < flow lf (inn x) pStart)
def spRoutes (K : PySem.W.Frag) (w : World) (CN : Addr) : Sp := SpQ (fun i : IRts => [i.i.m K w CN, dL K (sds i.ns), dL K (sds i.fs)]) fun i m => ∃ rs : List (List Str), m = dL K (rs.map fun r => .list (sds r)) ∧ rs.length = (i.fs.filter fun x => posF i.i.lf x).length
theorem last_at {l : List Str} {x : Str} : atI (sds (l ++ [x])) (-1) = some (.str x) := by
  unfold atI ixN
  have hl : (sds (l ++ [x])).length = l.length + 1 := by unfold sds; rw [List.length_map, List.length_append]; rfl
  rw [hl, if_neg (by decide : ¬ (0 : Int) ≤ -1), if_pos (by omega : -((l.length + 1 : Nat) : Int) ≤ -1)]
  show (sds (l ++ [x]))[((-1 : Int) + ((l.length + 1 : Nat) : Int)).toNat]? = _
  have e : ((-1 : Int) + ((l.length + 1 : Nat) : Int)).toNat = l.length := by omega
  rw [e]
  unfold sds
  rw [List.getElem?_map, List.getElem?_append_right (Nat.le_refl _)]
  simp
theorem sds_snoc (l : List Str) (x : Str) : sds (l ++ [x]) = sds l ++ [.str x] := by
  unfold sds
  rw [List.map_append]
  rfl
theorem nonB_opt (o : Option Str) : nonB (optD o) = o.isNone := by cases o <;> rfl
theorem ok_routes {f : Addr} {fd : FuncData} (Fn : L2.Fun K "routes_of" "routes_of" s_routes_of f fd) (T : Txt K mg CM CN CA) (c_road_behind : C8.Cal P w K mg base 1 "road_behind" (spBehind K w CN) []) : FnOk P w K mg base CX0 2 f fd p_routes_of (spRoutes K w CN) := by
  refine fun_okQ Fn sc_routes_of (fun i => rfl) fun cdv A outer s H E hr => ?_
  have hu64 := hu64_of hr
  refine ⟨_, (pss_cons (ps_set (i := 3) sc_routes_of.nd rfl (Or.inl rfl) (pe_lst pa_nil))
      (pss_cons (ps_for PassesOwn.never rfl (pi_list (pv 2)) (pg_name (i := 4) sc_routes_of.nd rfl (Or.inl rfl)) (pss_one (ps_if (pt_cmpR op_gt (pe_ix (ix_n hu64) (pe_fld (pv 0) rfl) (pe_tup (pa_cons (pe_tup (pa_cons pe_str (pa_cons (pv 4) pa_nil))) (pa_cons pe_str pa_nil))) (fun _ _ => rfl)) pe_int (nomark _)) (pss_cons (ps_set (i := 5) sc_routes_of.nd rfl (Or.inl rfl) (pe_lst (pa_cons (pv 4) pa_nil)))
      (pss_cons (ps_set (i := 6) sc_routes_of.nd rfl (Or.inl rfl) (C8.pe_c c_road_behind hr (by decide) (by rfl) (pa_cons (pv 0) (pa_cons (pv 1) (pa_cons (pv 4) pa_nil)))))
      (pss_cons (ps_while PassesOwn.never (PW.pt (pw_and (pt_cmpR op_notN1 (pv 6) pe_non (nomark _)) (pw_and1 (pt_cmpR op_eq (pe_nm PySem.F.plainAttrs_dict PySem.F.slot_dict_get PySem.F.type_dict_get (mt_nget hu64) (pe_fld (pv 0) rfl) (pa_cons (pe_tup (pa_cons pe_str (pa_cons (pe_tup (pa_cons pe_str (pa_cons (pe_ix ix_list (pv 5) (pe_un un_neg pe_int) (fun _ _ => rfl)) pa_nil))) pa_nil))) (pa_cons pe_int pa_nil))) pe_int (nomark _))))) (pss_cons (ps_expr (pe_bm PySem.F.plainAttrs_list PySem.F.slot_list_append PySem.F.type_list_append mt_append (pv 5) (pa_cons (pv 6) pa_nil)))
      (pss_one (ps_set (i := 6) sc_routes_of.nd rfl (Or.inl rfl) (C8.pe_c c_road_behind hr (by decide) (by rfl) (pa_cons (pv 0) (pa_cons (pv 1) (pa_cons (pv 6) pa_nil))))))))
      (pss_one (ps_expr (pe_bm PySem.F.plainAttrs_list PySem.F.slot_list_append PySem.F.type_list_append mt_append (pv 3) (pa_cons (pv 5) pa_nil))))))) pss_nil)))
      (pss_one (ps_ret (pv 3))))), fun i => ?_⟩
  obtain ⟨⟨lf, ah, n, hn⟩, ns, fs, key, ends, few⟩ := i
  show ASt K _ [some (.d (netP K w CN lf ah n)), some (.d (dL K (sds ns))), some (.d (dL K (sds fs))), none, none, none, none] _
  refine ast_seq (ast_asgN (evn_lst (eva_nil ⟨[], rfl, by simp, ?_⟩)))
  show ASt K _ [some (.d (netP K w CN lf ah n)), some (.d (dL K (sds ns))), some (.d (dL K (sds fs))), some (.own (.lst (([] : List (List Str)).map fun r => .list (sds r)))), none, none, none] _
  refine ast_seq (ast_for (evi_list (evp_var rfl ⟨_, rfl, ?_⟩)))
  refine ⟨fun i A' => ∃ (rs : List (List Str)) (z4 z5 z6 : Option Sl), A' = [some (.d (netP K w CN lf ah n)), some (.d (dL K (sds ns))), some (.d (dL K (sds fs))), some (.own (.lst (rs.map fun r => .list (sds r)))), z4, z5, z6] ∧ rs.length = ((fs.take i).filter fun x => posF lf x).length, ⟨[], none, none, none, rfl, rfl⟩, ?_, ?_⟩
  · rintro i m A' hm ⟨rs, z4, z5, z6, rfl, hrs⟩
    rw [List.map_map, List.getElem?_map] at hm
    cases hx : fs[i]? with
    | none => rw [hx] at hm; cases hm
    | some x =>
      rw [hx] at hm
      cases hm
      have hxf : x ∈ fs := List.mem_of_getElem? hx
      have hi : i < fs.length := (List.getElem?_eq_some_iff.mp hx).1
      have et : fs.take (i + 1) = fs.take i ++ [x] := by rw [List.take_add_one, hx]; rfl
      have rl : rs.length ≤ 50 := by
        rw [hrs]
        have h1 := List.length_filter_le (fun x => posF lf x) (fs.take i)
        have h2 : (fs.take i).length ≤ fs.length := by rw [List.length_take]; exact Nat.min_le_right _ _
        omega
      obtain ⟨v, hv⟩ : ∃ v, lf (pr (inn x) pStart) = some v := by
        cases e : lf (pr (inn x) pStart) with
        | none => exact absurd e (key x hxf)
        | some v => exact ⟨v, rfl⟩
      have hfl : flow lf (inn x) pStart = v := by unfold flow; rw [hv]; rfl
      refine as_name (ast_if (evt_test (evp_op (evp_op (evp_fld (evp_var rfl ⟨CN, _, _, rfl, T.clN, T.n_left, rfl, ?_⟩))))))
      refine evp_tup (eva_cons (evp_pt (evp_var rfl ⟨rfl, eva_1 (evp_str ⟨[(inn x).data, pStart.data], by rw [inn_data, start_data]; rfl, by simp, ?_⟩)⟩)))
      rw [pr_dat]
      refine rok_nget (f := fun k => (lf k).map (dI K)) (m := dI K v) (Nat.le_of_lt hn) (okk_pr (.inn x) .start) (by rw [hv]; rfl) ?_
      refine evp_int (rok_b ⟨_, rfl, ?_⟩)
      have epos : decide (0 < v) = posF lf x := by unfold posF; rw [hfl]
      show if decide (0 < v) = true then _ else _
      by_cases hp : 0 < v
      · rw [decide_eq_true hp]
        refine ast_seq (ast_asgN (evn_lst (eva_1 (evp_var rfl ⟨[.str x], rfl, by simp, ?_⟩))))
        refine ast_seq (ast_asg (evp_callQ (eva_v3 rfl rfl rfl ⟨(⟨lf, ah, n, hn⟩, ns, x), rfl, fun m em => ?_⟩)))
        subst em
        show ASt K _ [some (.d (netP K w CN lf ah n)), some (.d (dL K (sds ns))), some (.d (dL K (sds fs))), some (.own (.lst (rs.map fun r => .list (sds r)))), some (.d (dS K x)), some (.own (.lst (sds ([] ++ [x])))), some (.d (dat K (optD (behind lf ns x))))] _
        refine ast_seq (ast_while (fun k A2 => ∃ (l : List Str) (q : Str), Ends lf ns k q ∧ l.length + k ≤ 50 ∧ A2 = [some (.d (netP K w CN lf ah n)), some (.d (dL K (sds ns))), some (.d (dL K (sds fs))), some (.own (.lst (rs.map fun r => .list (sds r)))), some (.d (dS K x)), some (.own (.lst (sds (l ++ [q])))), some (.d (dat K (optD (behind lf ns q))))]) 50 ⟨[], x, ends x hxf (by show 0 < flow lf (inn x) pStart; rw [hfl]; exact hp), by simp, rfl⟩ ?_)
        rintro k A2 ⟨l, q, hq, hlk, rfl⟩
        -- what follows the loop
        have done : ASt K (tDrop (tBM K "list" rAppend (tVar 3) (tCons (tVar 5) tNil))) [some (.d (netP K w CN lf ah n)), some (.d (dL K (sds ns))), some (.d (dL K (sds fs))), some (.own (.lst (rs.map fun r => .list (sds r)))), some (.d (dS K x)), some (.own (.lst (sds (l ++ [q])))), some (.d (dat K (optD (behind lf ns q))))]
            { nx := fun A' => ∃ (rs : List (List Str)) (z4 z5 z6 : Option Sl), A' = [some (.d (netP K w CN lf ah n)), some (.d (dL K (sds ns))), some (.d (dL K (sds fs))), some (.own (.lst (rs.map fun r => .list (sds r)))), z4, z5, z6] ∧ rs.length = ((fs.take (i + 1)).filter fun x => posF lf x).length,
              rt := fun m => ∃ rs : List (List Str), m = dL K (rs.map fun r => .list (sds r)) ∧ rs.length = (fs.filter fun x => posF lf x).length, bk := fun A' => ASt K (tRet (tVar 3)) A' { nx := fun _ => ∃ rs : List (List Str), dN K = dL K (rs.map fun r => .list (sds r)) ∧ rs.length = (fs.filter fun x => posF lf x).length, rt := fun m => ∃ rs : List (List Str), m = dL K (rs.map fun r => .list (sds r)) ∧ rs.length = (fs.filter fun x => posF lf x).length },
              ct := fun A' => ∃ (rs : List (List Str)) (z4 z5 z6 : Option Sl), A' = [some (.d (netP K w CN lf ah n)), some (.d (dL K (sds ns))), some (.d (dL K (sds fs))), some (.own (.lst (rs.map fun r => .list (sds r)))), z4, z5, z6] ∧ rs.length = ((fs.take (i + 1)).filter fun x => posF lf x).length } := by
          refine ast_freeze (i := 5) rfl ?_
          refine ast_append (i := 3) rfl (by rw [List.length_map]; omega) (evp_var rfl ⟨.list (sds (l ++ [q])), rfl, rs ++ [l ++ [q]], some (.d (dS K x)), some (.d (dL K (sds (l ++ [q])))), some (.d (dat K (optD (behind lf ns q)))), ?_, ?_⟩)
          · rw [List.map_append]
            rfl
          · rw [et, List.filter_append, List.length_append, List.length_append, hrs]
            simp [← epos, hp]
        refine evt_and (evt_test (evp_op (evp_var rfl (evp_non (rok_notN rfl ⟨_, rfl, ?_⟩)))))
        rw [nonB_opt]
        cases hb : behind lf ns q with
        | none =>
          rw [hb] at done
          exact done
        | some y =>
          refine evt_thaw (i := 5) rfl (evt_test (evp_op (evp_nget (f := fun k => (lf k).map (dI K)) (n := n) (k := pr pGoal (out q)) (m := dI K 0) (Nat.le_of_lt hn) (okk_pr .goal (.out q)) (evp_fld (evp_var rfl ⟨CN, _, _, rfl, T.clN, T.n_left, rfl, rfl, ?_⟩)))))
          refine eva_cons (evp_tup (eva_cons (evp_str (eva_1 (evp_pt (evp_op (evp_var rfl (evp_un (evp_int (uok_neg (rok_ixL (d := .str q) last_at ⟨rfl, [pGoal.data, (out q).data], by rw [goal_data, out_data]; rfl, by simp, ?_⟩)))))))))))
          rw [pr_dat]
          refine eva_1 (evp_int ⟨rfl, ?_⟩)
          rw [getD_flow]
          refine evp_int (rok_eqI ⟨_, rfl, ?_⟩)
          show if decide (flow lf pGoal (out q) = 0) = true then _ else _
          by_cases hz : flow lf pGoal (out q) = 0
          · rw [decide_eq_true hz]
            obtain ⟨k', rfl, hk'⟩ : ∃ k', k = k' + 1 ∧ Ends lf ns k' y := by
              cases hq with
              | stop h =>
                rcases h with h | h
                · rw [hb] at h; cases h
                · unfold backF at h; rw [hz] at h; cases h
              | go h1 h2 =>
                rw [hb] at h1
                cases h1
                exact ⟨_, rfl, h2⟩
            refine ast_seq (ast_append (i := 5) rfl (by unfold sds; rw [List.length_map, List.length_append, List.length_singleton]; omega) (evp_var rfl ⟨.str y, rfl, ?_⟩))
            rw [← sds_snoc]
            refine ast_asg (evp_callQ (eva_v3 rfl rfl rfl ⟨(⟨lf, ah, n, hn⟩, ns, y), rfl, fun m em => ?_⟩))
            subst em
            exact ⟨k', Nat.lt_succ_self _, l ++ [q], y, hk', by rw [List.length_append, List.length_singleton]; omega, rfl⟩
          · rw [decide_eq_false hz]
            rw [hb] at done
            exact done
      · rw [decide_eq_false hp]
        refine ast_next ⟨rs, _, _, _, rfl, ?_⟩
        rw [et, List.filter_append, List.length_append, hrs]
        simp [← epos, hp]
  · rintro A' ⟨rs, z4, z5, z6, rfl, hrs⟩
    refine ast_freeze (i := 3) rfl (ast_ret (evp_var rfl ⟨rs, rfl, ?_⟩))
    rw [hrs, List.length_map, List.length_map, List.take_length]
end Wp
/-! The net: add, __init__. -/
namespace Wp
open PySem PySem.Spec PyProof.Rows L2
variable {P : Program} {w : World} {K : PySem.W.Frag} {mg : Str → Option Value} {base : Heap} {CM CN CA : Addr}
abbrev s_Net_add : Stmt := inClass (top 11) 1
abbrev n_Net_add : List Str := ["self", "one", "other", "many"]
abbrev p_Net_add : List Str := ["self", "one", "other", "many"]
theorem sc_Net_add : FnScope n_Net_add p_Net_add (defScope s_Net_add) := ⟨rfl, rfl, rfl, by decide +kernel, rfl, by decide +kernel, by decide +kernel⟩
theorem ok_add {f : Addr} {fd : FuncData} (Fn : L2.Fun K "add" "Net.add" s_Net_add f fd) (T : Txt K mg CM CN CA) : FnOk P w K mg base CX0 1 f fd p_Net_add (SpAdd K w CN) := by
  refine add_ok Fn sc_Net_add rfl rfl fun cdv A outer s H E hr => ?_
  have hu64 := hu64_of hr
  refine ⟨_, (pss_cons (ps_asg (pv 3) (pg_sub (pe_fld (pv 0) rfl) (pe_tup (pa_cons (pv 1) (pa_cons (pv 2) pa_nil))) (set_n hu64)))
      (pss_cons (ps_asg (pe_nm PySem.F.plainAttrs_dict PySem.F.slot_dict_get PySem.F.type_dict_get (mt_nget hu64) (pe_fld (pv 0) rfl) (pa_cons (pe_tup (pa_cons (pv 2) (pa_cons (pv 1) pa_nil))) (pa_cons pe_int pa_nil))) (pg_sub (pe_fld (pv 0) rfl) (pe_tup (pa_cons (pv 2) (pa_cons (pv 1) pa_nil))) (set_n hu64)))
      (pss_cons (ps_expr (pe_bm PySem.F.plainAttrs_list PySem.F.slot_list_append PySem.F.type_list_append mt_append (pe_nm PySem.F.plainAttrs_dict PySem.F.slot_dict_setdefault PySem.F.type_dict_setdefault (mt_ndflt hu64) (pe_fld (pv 0) rfl) (pa_cons (pv 1) (pa_cons (pe_lst pa_nil) pa_nil))) (pa_cons (pv 2) pa_nil)))
      (pss_one (ps_expr (pe_bm PySem.F.plainAttrs_list PySem.F.slot_list_append PySem.F.type_list_append mt_append (pe_nm PySem.F.plainAttrs_dict PySem.F.slot_dict_setdefault PySem.F.type_dict_setdefault (mt_ndflt hu64) (pe_fld (pv 0) rfl) (pa_cons (pv 2) (pa_cons (pe_lst pa_nil) pa_nil))) (pa_cons (pv 1) pa_nil))))))), fun dl da p q i N op oq o1 o2 hn => ?_⟩
  have tp : ∀ {A : AS} {P : MP → Prop} {j k : Nat} {a b : NK}, A[j]? = some (some (.d (dat K a.data))) → A[k]? = some (some (.d (dat K b.data))) → P (dat K (pr a b).data) → EvP K (tTup (tCons (tVar j) (tCons (tVar k) tNil))) A P := fun {A P j k a b} h1 h2 q => evp_tup (eva_v2 h1 h2 ⟨[a.data, b.data], rfl, by simp, by rw [pr_dat]; exact q⟩)
  have fl : ∀ {A : AS} {P : MP → Prop}, A[0]? = some (some (.d (netI CN dl da))) → P (refM dl) → EvP K (tFld K (tVar 0) "left") A P := fun {A P} h q => evp_fld (evp_var h ⟨CN, _, _, rfl, T.clN, T.n_left, rfl, q⟩)
  have fa : ∀ {A : AS} {P : MP → Prop}, A[0]? = some (some (.d (netI CN dl da))) → P (refM da) → EvP K (tFld K (tVar 0) "ahead") A P := fun {A P} h q => evp_fld (evp_var h ⟨CN, _, _, rfl, T.clN, T.n_ahead, rfl, q⟩)
  refine nst_seq (nst_setL (k := pr p q) (i := i) o1 (by omega) (evp_var rfl ⟨rfl, fl rfl ⟨rfl, tp rfl rfl ⟨rfl, ?_⟩⟩⟩))
  refine nst_seq (nst_setG (k := pr q p) (k' := pr q p) o2 o2 (by show N.n + 1 < _; omega) (fl rfl ⟨rfl, eva_cons (tp rfl rfl (eva_1 (evp_int ⟨rfl, fl rfl ⟨rfl, tp rfl rfl ⟨rfl, ?_⟩⟩⟩)))⟩))
  refine nst_seq (nst_app (k := p) (p := q) op (by show N.n + 1 + 1 < _; omega) rfl (fa rfl ⟨rfl, evp_var rfl ⟨rfl, ?_⟩⟩))
  refine nst_app (k := q) (p := p) oq (by show N.n + 1 + 1 + 1 < _; omega) rfl (fa rfl ⟨rfl, evp_var rfl ⟨rfl, ?_⟩⟩)
  rfl
/-! ### the edges -/
theorem text_inj {a b : Str} (h : NestedKey.text a = .text b) : a = b := by injection h
theorem inn_inj {x y : Str} (h : inn x = inn y) : x = y := by
  unfold inn at h
  injection h with h
  injection h with _ h
  injection h with h
  exact text_inj h
theorem out_inj {x y : Str} (h : out x = out y) : x = y := by
  unfold out at h
  injection h with h
  injection h with _ h
  injection h with h
  exact text_inj h
theorem inn_out {x y : Str} : inn x ≠ out y := fun h => by
  unfold inn out at h
  injection h with h
  injection h with h _
  have := text_inj h
  exact absurd this (by decide)
theorem inn_start {x : Str} : inn x ≠ pStart := fun h => by cases h
theorem inn_goal {x : Str} : inn x ≠ pGoal := fun h => by cases h
theorem out_start {x : Str} : out x ≠ pStart := fun h => by cases h
theorem out_goal {x : Str} : out x ≠ pGoal := fun h => by cases h
theorem start_goal : pStart ≠ pGoal := fun h => absurd (text_inj h) (by decide)
theorem pr_inj {p q p' q' : NK} (h : pr p q = pr p' q') : p = p' ∧ q = q' := by
  unfold pr at h
  injection h with h
  injection h with h1 h
  injection h with h2 _
  exact ⟨h1, h2⟩
def capP (n : Nat) : NK → Int
  | .tup (.text a :: _) => if a = "in" then 1 else (n : Int) + 1
  | _ => (n : Int) + 1
theorem cap_inn (n : Nat) (x : Str) : capP n (inn x) = 1 := by
  show (if Str.ofString "in" = Str.ofString "in" then (1 : Int) else (n : Int) + 1) = 1
  rw [if_pos rfl]
theorem cap_out (n : Nat) (x : Str) : capP n (out x) = (n : Int) + 1 := by
  show (if Str.ofString "out" = Str.ofString "in" then (1 : Int) else (n : Int) + 1) = (n : Int) + 1
  rw [if_neg (by decide)]
theorem cap_start (n : Nat) : capP n pStart = (n : Int) + 1 := rfl
/-- the edges that the road x brings -/
inductive EdgeOf (c : Ch) (ns : List Str) (start goal : Str) (x : Str) : NK → NK → Prop
  | io : EdgeOf c ns start goal x (inn x) (out x)
  | s {r : Rd} : c.road? x = some r → r.start = start → EdgeOf c ns start goal x pStart (inn x)
  | g {r : Rd} : c.road? x = some r → r.fin = goal → EdgeOf c ns start goal x (out x) pGoal
  | f {r : Rd} {y : Str} : c.road? x = some r → y ∈ c.folls x r → y ≠ x → y ∈ ns → EdgeOf c ns start goal x (out x) (inn y)
def Edge (c : Ch) (ns : List Str) (start goal : Str) (p q : NK) : Prop := ∃ x ∈ ns, EdgeOf c ns start goal x p q
theorem EdgeOf.pts {c : Ch} {ns : List Str} {start goal x : Str} {p q : NK} (h : EdgeOf c ns start goal x p q) : IsPt p ∧ IsPt q := by
  cases h
  · exact ⟨.inn _, .out _⟩
  · exact ⟨.start, .inn _⟩
  · exact ⟨.out _, .goal⟩
  · exact ⟨.out _, .inn _⟩
theorem EdgeOf.asym {c : Ch} {ns : List Str} {start goal x y : Str} {p q : NK} (h : EdgeOf c ns start goal x p q) (k : EdgeOf c ns start goal y q p) : False := by
  cases h with
  | io =>
    generalize e1 : inn x = a at k
    generalize e2 : out x = b at k
    cases k with
    | io => exact inn_out e1
    | s _ _ => exact out_start e2
    | g _ _ => exact inn_goal e1
    | f _ _ h _ =>
      have h1 := inn_inj e1
      have h2 := out_inj e2
      exact h (h1.symm.trans h2)
  | s _ _ =>
    generalize e1 : pStart = a at k
    generalize e2 : inn x = b at k
    cases k with
    | io => exact out_start e1.symm
    | s _ _ => exact inn_start e1.symm
    | g _ _ => exact inn_out e2
    | f _ _ _ _ => exact inn_start e1.symm
  | g _ _ =>
    generalize e1 : out x = a at k
    generalize e2 : pGoal = b at k
    cases k with
    | io => exact inn_goal e2.symm
    | s _ _ => exact start_goal e2.symm
    | g _ _ => exact out_goal e1
    | f _ _ _ _ => exact out_goal e2.symm
  | @f r z _ _ hne _ =>
    generalize e1 : out x = a at k
    generalize e2 : inn z = b at k
    cases k with
    | io => exact hne ((inn_inj e2).trans (out_inj e1).symm)
    | s _ _ => exact inn_start e2
    | g _ _ => exact out_goal e1
    | f _ _ _ _ => exact inn_out e1.symm
/-- what the dicts tell once the edges D are in -/
structure NInv (m : Nat) (D : NK → NK → Prop) (N : NetN) : Prop where
  on : ∀ p q, D p q → N.lf (pr p q) = some (capP m p)
  back : ∀ p q, D q p → N.lf (pr p q) = some 0
  off : ∀ k, (∀ p q, k = pr p q → ¬ D p q ∧ ¬ D q p) → N.lf k = none
  adj : ∀ p q, q ∈ (N.ah p).getD [] ↔ D p q ∨ D q p
theorem NInv.add {m : Nat} {D : NK → NK → Prop} {N : NetN} {p q : NK} (h : NInv m D N) (ne : p ≠ q) (nq : ¬ D q p) : NInv m (fun a b => D a b ∨ (a = p ∧ b = q)) (N.add p q (capP m p)) := by
  have npr : pr q p ≠ pr p q := fun e => ne (pr_inj e).2
  have e0 : ((N.setL (pr p q) (capP m p)).lf (pr q p)).getD 0 = 0 := by
    show (if pr q p = pr p q then some (capP m p) else N.lf (pr q p)).getD 0 = 0
    rw [if_neg npr]
    by_cases d : D p q
    · rw [h.back q p d]; rfl
    · rw [h.off (pr q p) fun a b e => by
        obtain ⟨e1, e2⟩ := pr_inj e
        rw [← e1, ← e2]
        exact ⟨nq, d⟩]
      rfl
  have lf : ∀ k, (N.add p q (capP m p)).lf k = if k = pr q p then some 0 else if k = pr p q then some (capP m p) else N.lf k := fun k => by
    show (if k = pr q p then some (((N.setL (pr p q) (capP m p)).lf (pr q p)).getD 0) else if k = pr p q then some (capP m p) else N.lf k) = _
    rw [e0]
  have ah : ∀ a, ((N.add p q (capP m p)).ah a).getD [] = if a = q then (N.ah q).getD [] ++ [p] else if a = p then (N.ah p).getD [] ++ [q] else (N.ah a).getD [] := fun a => by
    show (if a = q then some ((if q = p then some ((N.ah p).getD [] ++ [q]) else N.ah q).getD [] ++ [p]) else if a = p then some ((N.ah p).getD [] ++ [q]) else N.ah a).getD [] = _
    rw [if_neg (fun e : q = p => ne e.symm)]
    by_cases e1 : a = q
    · rw [if_pos e1, if_pos e1]; rfl
    · rw [if_neg e1, if_neg e1]
      by_cases e2 : a = p
      · rw [if_pos e2, if_pos e2]; rfl
      · rw [if_neg e2, if_neg e2]
  refine ⟨fun a b d => ?_, fun a b d => ?_, fun k hk => ?_, fun a b => ?_⟩
  · rw [lf]
    rcases d with d | ⟨rfl, rfl⟩
    · have n1 : pr a b ≠ pr q p := fun e => by
        obtain ⟨e1, e2⟩ := pr_inj e
        exact nq (e1 ▸ e2 ▸ d)
      rw [if_neg n1]
      by_cases e : pr a b = pr p q
      · rw [if_pos e, (pr_inj e).1]
      · rw [if_neg e]
        exact h.on a b d
    · rw [if_neg npr.symm, if_pos rfl]
  · rw [lf]
    rcases d with d | ⟨rfl, rfl⟩
    · by_cases e : pr a b = pr q p
      · rw [if_pos e]
      · rw [if_neg e]
        have n2 : pr a b ≠ pr p q := fun e' => by
          obtain ⟨e1, e2⟩ := pr_inj e'
          exact nq (e1 ▸ e2 ▸ d)
        rw [if_neg n2]
        exact h.back a b d
    · rw [if_pos rfl]
  · rw [lf]
    have n1 : k ≠ pr q p := fun e => (hk q p e).2 (.inr ⟨rfl, rfl⟩)
    have n2 : k ≠ pr p q := fun e => (hk p q e).1 (.inr ⟨rfl, rfl⟩)
    rw [if_neg n1, if_neg n2]
    exact h.off k fun a b e => ⟨fun d => (hk a b e).1 (.inl d), fun d => (hk a b e).2 (.inl d)⟩
  · rw [ah]
    by_cases e1 : a = q
    · subst e1
      rw [if_pos rfl, List.mem_append, h.adj, List.mem_singleton]
      constructor
      · rintro ((d | d) | rfl)
        · exact .inl (.inl d)
        · exact .inr (.inl d)
        · exact .inr (.inr ⟨rfl, rfl⟩)
      · rintro ((d | ⟨e, _⟩) | (d | ⟨e, _⟩))
        · exact .inl (.inl d)
        · exact absurd e.symm ne
        · exact .inl (.inr d)
        · exact .inr e
    · rw [if_neg e1]
      by_cases e2 : a = p
      · subst e2
        rw [if_pos rfl, List.mem_append, h.adj, List.mem_singleton]
        constructor
        · rintro ((d | d) | rfl)
          · exact .inl (.inl d)
          · exact .inr (.inl d)
          · exact .inl (.inr ⟨rfl, rfl⟩)
        · rintro ((d | ⟨_, e⟩) | (d | ⟨_, e⟩))
          · exact .inl (.inl d)
          · exact .inr e
          · exact .inl (.inr d)
          · exact absurd e ne
      · rw [if_neg e2, h.adj]
        constructor
        · rintro (d | d)
          · exact .inl (.inl d)
          · exact .inr (.inl d)
        · rintro ((d | ⟨e, _⟩) | (d | ⟨_, e⟩))
          · exact .inl d
          · exact absurd e e2
          · exact .inr d
          · exact absurd e e1
theorem NInv.iff {m : Nat} {D D' : NK → NK → Prop} {N : NetN} (h : NInv m D N) (e : ∀ p q, D p q ↔ D' p q) : NInv m D' N := by
  have ee : D = D' := funext fun p => funext fun q => propext (e p q)
  exact ee ▸ h
theorem NSt.mono {dl da : Addr} {t : TS} {A : AS} {N : NetN} {nx nx' : AS → NetN → Prop} (h : NSt K w dl da t A N nx) (q : ∀ A' N', nx A' N' → nx' A' N') : NSt K w dl da t A N nx' := fun F0 H0 σ F H D x k => h F0 H0 σ F H D x fun A' N' σ' F' H' x' r => k A' N' σ' F' H' x' (q A' N' r)
theorem nst_cut {dl da : Addr} {t u : TS} {A : AS} {N : NetN} {nx : AS → NetN → Prop} (mid : AS → NetN → Prop) (h : NSt K w dl da t A N mid) (k : ∀ A' N', mid A' N' → NSt K w dl da u A' N' nx) : NSt K w dl da (tSeq t u) A N nx := nst_seq (h.mono k)
abbrev s_Net___init__ : Stmt := inClass (top 11) 0
abbrev n_Net___init__ : List Str := ["self", "chart", "kind", "start", "goal", "names", "name", "other"]
abbrev p_Net___init__ : List Str := ["self", "chart", "kind", "start", "goal"]
theorem sc_Net___init__ : FnScope n_Net___init__ p_Net___init__ (defScope s_Net___init__) := ⟨rfl, rfl, rfl, by decide +kernel, rfl, by decide +kernel, by decide +kernel⟩
structure IMk where
  c : Ch
  kind : Str
  start : Str
  goal : Str
  ok : c.Ok
def NetOk (i : IMk) (N : NetN) : Prop := NInv (i.c.usable i.kind).length (Edge i.c (i.c.usable i.kind) i.start i.goal) N ∧ N.n ≤ 400
def spNetI (K : PySem.W.Frag) (w : World) (CM CN : Addr) : Sp := SpNetQ K w CN (fun i : IMk => [chM K CM i.c, dS K i.kind, dS K i.start, dS K i.goal]) NetOk
theorem ok_net_init {f : Addr} {fd : FuncData} {dvs : List V} {kws : List (Str × V)} (Fn : FunD K "__init__" "Net.__init__" (defArgs s_Net___init__) (defBody s_Net___init__) (defScope s_Net___init__) dvs kws f fd) (T : Txt K mg CM CN CA)
    (c_usable : C8.Cal P w K mg base 3 "usable" (spUsable K CM) []) (c_is_open : C8.Cal P w K mg base 2 "is_open" (spOpen K CM) []) (c_Map_road : C8.Met P w K mg base 1 CM "road" (spRoad K CM) []) (c_Map_followers : C8.Met P w K mg base 3 CM "followers" (spFol K CM) [])
    (c_Net_add : C8.Met P w K mg base 1 CN "add" (SpAdd K w CN) []) : FnOk P w K mg base CX0 4 f fd p_Net___init__ (spNetI K w CM CN) := by
  refine netinit_okQ Fn sc_Net___init__ (by decide) (fun i => rfl) T.clN T.n_left T.n_ahead fun cdv A outer s H E hr => ?_
  refine ⟨_, (pss_cons (ps_fld (pv 0) pe_nnew rfl)
      (pss_cons (ps_fld (pv 0) pe_nnew rfl)
      (pss_cons (ps_set (i := 5) sc_Net___init__.nd rfl (Or.inl rfl) (C8.pe_c c_usable hr (by decide) (by rfl) (pa_cons (pv 1) (pa_cons (pv 2) pa_nil))))
      (pss_one (ps_for PassesOwn.never rfl (pi_list (pv 5)) (pg_name (i := 6) sc_Net___init__.nd rfl (Or.inl rfl)) (pss_cons (ps_expr (C8.pe_mt c_Net_add hr (by decide) (pv 0) (pa_cons (pe_tup (pa_cons pe_str (pa_cons (pv 6) pa_nil))) (pa_cons (pe_tup (pa_cons pe_str (pa_cons (pv 6) pa_nil))) (pa_cons pe_int pa_nil)))))
      (pss_cons (ps_if (pt_cmpR op_eq (pe_ix ix_tup (C8.pe_mt c_Map_road hr (by decide) (pv 1) (pa_cons (pv 6) pa_nil)) pe_int (fun _ _ => rfl)) (pv 3) (nomark _)) (pss_one (ps_expr (C8.pe_mt c_Net_add hr (by decide) (pv 0) (pa_cons pe_str (pa_cons (pe_tup (pa_cons pe_str (pa_cons (pv 6) pa_nil))) (pa_cons (pe_op op_add (pe_callB call_lenA (by rfl) T.b_len PySem.boot_len (pa_cons (pv 5) pa_nil)) pe_int) pa_nil)))))) pss_nil)
      (pss_cons (ps_if (pt_cmpR op_eq (pe_ix ix_tup (C8.pe_mt c_Map_road hr (by decide) (pv 1) (pa_cons (pv 6) pa_nil)) pe_int (fun _ _ => rfl)) (pv 4) (nomark _)) (pss_one (ps_expr (C8.pe_mt c_Net_add hr (by decide) (pv 0) (pa_cons (pe_tup (pa_cons pe_str (pa_cons (pv 6) pa_nil))) (pa_cons pe_str (pa_cons (pe_op op_add (pe_callB call_lenA (by rfl) T.b_len PySem.boot_len (pa_cons (pv 5) pa_nil)) pe_int) pa_nil)))))) pss_nil)
      (pss_one (ps_for PassesOwn.never rfl (pi_list (C8.pe_mt c_Map_followers hr (by decide) (pv 1) (pa_cons (pv 6) pa_nil))) (pg_name (i := 7) sc_Net___init__.nd rfl (Or.inl rfl)) (pss_one (ps_if (PW.pt (pw_and (pt_cmpR op_ne (pv 7) (pv 6) (nomark _)) (pw_and1 (pt_val (C8.pe_c c_is_open hr (by decide) (by rfl) (pa_cons (pv 1) (pa_cons (pv 2) (pa_cons (pv 7) pa_nil)))))))) (pss_one (ps_expr (C8.pe_mt c_Net_add hr (by decide) (pv 0) (pa_cons (pe_tup (pa_cons pe_str (pa_cons (pv 6) pa_nil))) (pa_cons (pe_tup (pa_cons pe_str (pa_cons (pv 7) pa_nil))) (pa_cons (pe_op op_add (pe_callB call_lenA (by rfl) T.b_len PySem.boot_len (pa_cons (pv 5) pa_nil)) pe_int) pa_nil)))))) pss_nil)))))))))))), fun i dl da => ?_⟩
  obtain ⟨c, kind, start, goal, ok⟩ := i
  have few := ok.few
  have ul := usable_len c kind
  show NSt K w dl da _ [some (.d (netI CN dl da)), some (.d (chM K CM c)), some (.d (dS K kind)), some (.d (dS K start)), some (.d (dS K goal)), none, none, none] N0 _
  refine nst_seq (nst_asg (evp_callQ (eva_v2 rfl rfl ⟨⟨(c, kind), ok.nd, Nat.le_trans few (by decide)⟩, rfl, fun m em => ?_⟩)))
  subst em
  show NSt K w dl da _ [some (.d (netI CN dl da)), some (.d (chM K CM c)), some (.d (dS K kind)), some (.d (dS K start)), some (.d (dS K goal)), some (.d (dL K (sds (c.usable kind)))), none, none] N0 (fun _ N' => NInv (c.usable kind).length (Edge c (c.usable kind) start goal) N' ∧ N'.n ≤ 400)
  have nsub : ∀ x ∈ c.usable kind, ∃ r, r ∈ c.roads ∧ r.name = x ∧ c.road? x = some r := fun x hx => usable_road ok hx
  have opn : ∀ x r, c.road? x = some r → (r.open_ kind = true ↔ x ∈ c.usable kind) := fun x r hr => by
    obtain ⟨h1, h2⟩ := road_in hr
    constructor
    · intro h
      rw [← h2]
      exact List.mem_map.mpr ⟨r, List.mem_filter.mpr ⟨h1, h⟩, rfl⟩
    · intro h
      unfold Ch.usable at h
      obtain ⟨r', hr', e⟩ := List.mem_map.mp h
      have h3 := road_of ok.nd (List.mem_filter.mp hr').1
      rw [e, hr] at h3
      cases h3
      exact (List.mem_filter.mp hr').2
  generalize hns : c.usable kind = ns at nsub opn ul
  have asym : ∀ {x y : Str} {p q : NK}, EdgeOf c ns start goal x p q → EdgeOf c ns start goal y q p → False := fun a b => EdgeOf.asym a b
  have lenE : (sds ns).length = ns.length := List.length_map _
  refine nst_for (evi_list (evp_var rfl ⟨_, rfl, ?_⟩))
  refine ⟨fun i A' N' => ∃ z6 z7, A' = [some (.d (netI CN dl da)), some (.d (chM K CM c)), some (.d (dS K kind)), some (.d (dS K start)), some (.d (dS K goal)), some (.d (dL K (sds ns))), z6, z7] ∧ NInv ns.length (fun p q => ∃ j, j < i ∧ ∃ x, ns[j]? = some x ∧ EdgeOf c ns start goal x p q) N' ∧ N'.n ≤ 44 * i, ⟨none, none, rfl, ?_, Nat.le_refl _⟩, ?_, ?_⟩
  · exact ⟨fun p q ⟨j, h, _⟩ => absurd h (Nat.not_lt_zero _), fun p q ⟨j, h, _⟩ => absurd h (Nat.not_lt_zero _), fun k _ => rfl, fun p q => ⟨fun h => (by cases h), fun h => h.elim (fun ⟨j, h, _⟩ => absurd h (Nat.not_lt_zero _)) (fun ⟨j, h, _⟩ => absurd h (Nat.not_lt_zero _))⟩⟩
  · rintro i m A' N' hm ⟨z6, z7, rfl, hN, hn⟩
    rw [List.map_map, List.getElem?_map] at hm
    cases hx : ns[i]? with
    | none => rw [hx] at hm; cases hm
    | some x =>
      rw [hx] at hm
      cases hm
      have hi : i < ns.length := (List.getElem?_eq_some_iff.mp hx).1
      have hxn : x ∈ ns := List.mem_of_getElem? hx
      obtain ⟨r, hr1, hr2, hr3⟩ := nsub x hxn
      -- D stays within the edges
      have nq : ∀ {D : NK → NK → Prop} {p q : NK}, (∀ a b, D a b → ∃ y, EdgeOf c ns start goal y a b) → EdgeOf c ns start goal x p q → ¬ D q p := fun hD e d => by
        obtain ⟨y, hy⟩ := hD _ _ d
        exact asym e hy
      have hD0 : ∀ a b, (∃ j, j < i ∧ ∃ x, ns[j]? = some x ∧ EdgeOf c ns start goal x a b) → ∃ y, EdgeOf c ns start goal y a b := fun a b ⟨j, _, y, _, e⟩ => ⟨y, e⟩
      show NSt K w dl da _ [some (.d (netI CN dl da)), some (.d (chM K CM c)), some (.d (dS K kind)), some (.d (dS K start)), some (.d (dS K goal)), some (.d (dL K (sds ns))), some (.d (dS K x)), z7] N' _
      generalize hD : (fun p q => ∃ j, j < i ∧ ∃ x, ns[j]? = some x ∧ EdgeOf c ns start goal x p q) = D at hN
      have hD0 : ∀ a b, D a b → ∃ y, EdgeOf c ns start goal y a b := by subst hD; exact hD0
      -- in -> out
      refine nst_cut (fun A' N' => A' = [some (.d (netI CN dl da)), some (.d (chM K CM c)), some (.d (dS K kind)), some (.d (dS K start)), some (.d (dS K goal)), some (.d (dL K (sds ns))), some (.d (dS K x)), z7] ∧ NInv ns.length (fun a b => D a b ∨ (a = inn x ∧ b = out x)) N' ∧ N'.n ≤ 44 * i + 4)
        (nst_add (p := inn x) (q := out x) (i := 1) (okk_pt (.inn x)) (okk_pt (.out x)) (okk_pr (.inn x) (.out x)) (okk_pr (.out x) (.inn x)) (by omega) (evp_var rfl ⟨rfl, eva_cons (evp_pt (evp_var rfl ⟨rfl, eva_cons (evp_pt (evp_var rfl ⟨rfl, eva_1 (evp_int ⟨by rw [inn_data, out_data], rfl, ?_, by show N'.n + 1 + 1 + 1 + 1 ≤ _; omega⟩)⟩))⟩))⟩)) ?_
      · have z := hN.add (p := inn x) (q := out x) inn_out (nq hD0 .io)
        rw [cap_inn] at z
        exact z
      rintro _ N1 ⟨rfl, hN1, hn1⟩
      have hD1 : ∀ a b, D a b ∨ (a = inn x ∧ b = out x) → ∃ y, EdgeOf c ns start goal y a b := fun a b h => by
        rcases h with h | ⟨rfl, rfl⟩
        · exact hD0 a b h
        · exact ⟨x, .io⟩
      -- start
      refine nst_cut (fun A' N' => A' = [some (.d (netI CN dl da)), some (.d (chM K CM c)), some (.d (dS K kind)), some (.d (dS K start)), some (.d (dS K goal)), some (.d (dL K (sds ns))), some (.d (dS K x)), z7] ∧ NInv ns.length (fun a b => (D a b ∨ (a = inn x ∧ b = out x)) ∨ (r.start = start ∧ a = pStart ∧ b = inn x)) N' ∧ N'.n ≤ 44 * i + 8)
        (nst_if (evt_test (evp_op (evp_op (evp_methQ (evp_var rfl ⟨ins_ok rfl, eva_v1 rfl ⟨⟨c, x, r, hr3⟩, rfl, fun m em => ?_⟩⟩)))))) ?_
      · subst em
        refine evp_int (rok_ixT (d := .str r.start) rfl (evp_var rfl (rok_eqS ⟨_, rfl, ?_⟩)))
        by_cases hs : r.start = start
        · rw [decide_eq_true hs]
          refine nst_add (p := pStart) (q := inn x) (i := (ns.length : Int) + 1) (okk_pt .start) (okk_pt (.inn x)) (okk_pr .start (.inn x)) (okk_pr (.inn x) .start) (by omega) (evp_var rfl ⟨rfl, eva_cons (evp_str (eva_cons (evp_pt (evp_var rfl ⟨rfl, eva_1 (evp_op (evp_cb (eva_v1 rfl (cok_lenL (evp_int (rok_i ?_))))))⟩))))⟩)
          rw [lenE]
          refine ⟨by rw [start_data, inn_data]; rfl, rfl, ?_, by show N1.n + 1 + 1 + 1 + 1 ≤ _; omega⟩
          have z := hN1.add (p := pStart) (q := inn x) inn_start.symm (nq hD1 (.s hr3 hs))
          rw [cap_start] at z
          exact z.iff fun a b => or_congr Iff.rfl ⟨fun ⟨h1, h2⟩ => ⟨hs, h1, h2⟩, fun ⟨_, h1, h2⟩ => ⟨h1, h2⟩⟩
        · rw [decide_eq_false hs]
          exact nst_next ⟨rfl, hN1.iff fun a b => ⟨.inl, fun h => h.elim id fun ⟨h1, _⟩ => absurd h1 hs⟩, by omega⟩
      rintro _ N2 ⟨rfl, hN2, hn2⟩
      have hD2 : ∀ a b, ((D a b ∨ (a = inn x ∧ b = out x)) ∨ (r.start = start ∧ a = pStart ∧ b = inn x)) → ∃ y, EdgeOf c ns start goal y a b := fun a b h => by
        rcases h with h | ⟨hs, rfl, rfl⟩
        · exact hD1 a b h
        · exact ⟨x, .s hr3 hs⟩
      -- goal
      refine nst_cut (fun A' N' => A' = [some (.d (netI CN dl da)), some (.d (chM K CM c)), some (.d (dS K kind)), some (.d (dS K start)), some (.d (dS K goal)), some (.d (dL K (sds ns))), some (.d (dS K x)), z7] ∧ NInv ns.length (fun a b => ((D a b ∨ (a = inn x ∧ b = out x)) ∨ (r.start = start ∧ a = pStart ∧ b = inn x)) ∨ (r.fin = goal ∧ a = out x ∧ b = pGoal)) N' ∧ N'.n ≤ 44 * i + 12)
        (nst_if (evt_test (evp_op (evp_op (evp_methQ (evp_var rfl ⟨ins_ok rfl, eva_v1 rfl ⟨⟨c, x, r, hr3⟩, rfl, fun m em => ?_⟩⟩)))))) ?_
      · subst em
        refine evp_int (rok_ixT (d := .str r.fin) rfl (evp_var rfl (rok_eqS ⟨_, rfl, ?_⟩)))
        by_cases hs : r.fin = goal
        · rw [decide_eq_true hs]
          refine nst_add (p := out x) (q := pGoal) (i := (ns.length : Int) + 1) (okk_pt (.out x)) (okk_pt .goal) (okk_pr (.out x) .goal) (okk_pr .goal (.out x)) (by omega) (evp_var rfl ⟨rfl, eva_cons (evp_pt (evp_var rfl ⟨rfl, eva_cons (evp_str (eva_1 (evp_op (evp_cb (eva_v1 rfl (cok_lenL (evp_int (rok_i ?_))))))))⟩))⟩)
          rw [lenE]
          refine ⟨by rw [goal_data, out_data]; rfl, rfl, ?_, by show N2.n + 1 + 1 + 1 + 1 ≤ _; omega⟩
          have z := hN2.add (p := out x) (q := pGoal) out_goal (nq hD2 (.g hr3 hs))
          rw [cap_out] at z
          exact z.iff fun a b => or_congr Iff.rfl ⟨fun ⟨h1, h2⟩ => ⟨hs, h1, h2⟩, fun ⟨_, h1, h2⟩ => ⟨h1, h2⟩⟩
        · rw [decide_eq_false hs]
          exact nst_next ⟨rfl, hN2.iff fun a b => ⟨.inl, fun h => h.elim id fun ⟨h1, _⟩ => absurd h1 hs⟩, by omega⟩
      rintro _ N3 ⟨rfl, hN3, hn3⟩
      have hD3 : ∀ a b, (((D a b ∨ (a = inn x ∧ b = out x)) ∨ (r.start = start ∧ a = pStart ∧ b = inn x)) ∨ (r.fin = goal ∧ a = out x ∧ b = pGoal)) → ∃ y, EdgeOf c ns start goal y a b := fun a b h => by
        rcases h with h | ⟨hs, rfl, rfl⟩
        · exact hD2 a b h
        · exact ⟨x, .g hr3 hs⟩
      -- followers
      have tokx : TOk x := hr2 ▸ ok.tok r hr1
      have fll : (c.folls x r).length ≤ 8 := by
        have h1 := from_len c r.fin
        have h2 : (c.folls x r).length ≤ (c.from_ r.fin).length := List.length_filter_le _ _
        omega
      refine nst_for (evi_list (evp_methQ (evp_var rfl ⟨ins_ok rfl, eva_v1 rfl ⟨⟨c, x, r, hr3, ok.fin r hr1, Nat.le_trans few (by decide), tokx, ok.tok, ok.btok⟩, rfl, fun m em => ⟨_, em, ?_⟩⟩⟩)))
      refine ⟨fun j A' N' => ∃ z7, A' = [some (.d (netI CN dl da)), some (.d (chM K CM c)), some (.d (dS K kind)), some (.d (dS K start)), some (.d (dS K goal)), some (.d (dL K (sds ns))), some (.d (dS K x)), z7] ∧
        NInv ns.length (fun a b => (((D a b ∨ (a = inn x ∧ b = out x)) ∨ (r.start = start ∧ a = pStart ∧ b = inn x)) ∨ (r.fin = goal ∧ a = out x ∧ b = pGoal)) ∨ (∃ k, k < j ∧ ∃ y, (c.folls x r)[k]? = some y ∧ y ≠ x ∧ y ∈ ns ∧ a = out x ∧ b = inn y)) N' ∧ N'.n ≤ 44 * i + 12 + 4 * j,
        ⟨z7, rfl, hN3.iff fun a b => ⟨.inl, fun h => h.elim id fun ⟨k, hk, _⟩ => absurd hk (Nat.not_lt_zero _)⟩, by omega⟩, ?_, ?_⟩
      · rintro j m A' N4 hm ⟨z7', rfl, hN4, hn4⟩
        rw [List.map_map, List.getElem?_map] at hm
        cases hy : (c.folls x r)[j]? with
        | none => rw [hy] at hm; cases hm
        | some y =>
          rw [hy] at hm
          cases hm
          have hj : j < (c.folls x r).length := (List.getElem?_eq_some_iff.mp hy).1
          have hyr : ∃ q, q ∈ c.roads ∧ q.name = y := by
            have h1 := List.mem_of_getElem? hy
            unfold Ch.folls at h1
            obtain ⟨q, hq, e⟩ := List.mem_map.mp (List.mem_filter.mp h1).1
            exact ⟨q, (List.mem_filter.mp hq).1, e⟩
          obtain ⟨q, hq1, hq2⟩ := hyr
          have hq3 : c.road? y = some q := hq2 ▸ road_of ok.nd hq1
          have skip : (y = x ∨ y ∉ ns) → ∃ z7, [some (.d (netI CN dl da)), some (.d (chM K CM c)), some (.d (dS K kind)), some (.d (dS K start)), some (.d (dS K goal)), some (.d (dL K (sds ns))), some (.d (dS K x)), some (.d (dS K y))] = [some (Sl.d (netI CN dl da)), some (.d (chM K CM c)), some (.d (dS K kind)), some (.d (dS K start)), some (.d (dS K goal)), some (.d (dL K (sds ns))), some (.d (dS K x)), z7] ∧
              NInv ns.length (fun a b => (((D a b ∨ (a = inn x ∧ b = out x)) ∨ (r.start = start ∧ a = pStart ∧ b = inn x)) ∨ (r.fin = goal ∧ a = out x ∧ b = pGoal)) ∨ (∃ k, k < j + 1 ∧ ∃ y, (c.folls x r)[k]? = some y ∧ y ≠ x ∧ y ∈ ns ∧ a = out x ∧ b = inn y)) N4 ∧ N4.n ≤ 44 * i + 12 + 4 * (j + 1) := fun hsk =>
            ⟨_, rfl, hN4.iff fun a b => or_congr Iff.rfl ⟨fun ⟨k, hk, u⟩ => ⟨k, Nat.lt_succ_of_lt hk, u⟩, fun ⟨k, hk, y', e1, e2, e3, e4⟩ => by
              rcases Nat.lt_succ_iff_lt_or_eq.mp hk with h | h
              · exact ⟨k, h, y', e1, e2, e3, e4⟩
              · subst h
                rw [hy] at e1
                cases e1
                rcases hsk with h | h
                · exact absurd h e2
                · exact absurd e3 h⟩, by omega⟩
          refine nst_if (evt_and (evt_test (evp_op (evp_var rfl (evp_var rfl (rok_neS ⟨_, rfl, ?_⟩))))))
          by_cases hyx : y = x
          · rw [decide_eq_true hyx]
            exact nst_next (skip (.inl hyx))
          · rw [decide_eq_false hyx]
            refine evt_B (evp_callQ (eva_v3 rfl rfl rfl ⟨(⟨c, y, q, hq3⟩, kind), rfl, fun m em => ⟨_, em, ?_⟩⟩))
            show if q.open_ kind = true then _ else _
            by_cases hop : q.open_ kind = true
            · rw [if_pos hop]
              have hyn : y ∈ ns := (opn y q hq3).mp hop
              refine nst_add (p := out x) (q := inn y) (i := (ns.length : Int) + 1) (okk_pt (.out x)) (okk_pt (.inn y)) (okk_pr (.out x) (.inn y)) (okk_pr (.inn y) (.out x)) (by omega) (evp_var rfl ⟨rfl, eva_cons (evp_pt (evp_var rfl ⟨rfl, eva_cons (evp_pt (evp_var rfl ⟨rfl, eva_1 (evp_op (evp_cb (eva_v1 rfl (cok_lenL (evp_int (rok_i ?_))))))⟩))⟩))⟩)
              rw [lenE]
              refine ⟨by rw [inn_data, out_data]; rfl, _, rfl, ?_, by show N4.n + 1 + 1 + 1 + 1 ≤ _; omega⟩
              have e : EdgeOf c ns start goal x (out x) (inn y) := .f hr3 (List.mem_of_getElem? hy) hyx hyn
              have hD4 : ∀ a b, ((((D a b ∨ (a = inn x ∧ b = out x)) ∨ (r.start = start ∧ a = pStart ∧ b = inn x)) ∨ (r.fin = goal ∧ a = out x ∧ b = pGoal)) ∨ (∃ k, k < j ∧ ∃ y, (c.folls x r)[k]? = some y ∧ y ≠ x ∧ y ∈ ns ∧ a = out x ∧ b = inn y)) → ∃ y, EdgeOf c ns start goal y a b := fun a b h => by
                rcases h with h | ⟨k, _, y', e1, e2, e3, rfl, rfl⟩
                · exact hD3 a b h
                · exact ⟨x, .f hr3 (List.mem_of_getElem? e1) e2 e3⟩
              have z := hN4.add (p := out x) (q := inn y) inn_out.symm (nq hD4 e)
              rw [cap_out] at z
              refine z.iff fun a b => ?_
              constructor
              · rintro ((h | ⟨k, hk, u⟩) | ⟨rfl, rfl⟩)
                · exact .inl h
                · exact .inr ⟨k, Nat.lt_succ_of_lt hk, u⟩
                · exact .inr ⟨j, Nat.lt_succ_self _, y, hy, hyx, hyn, rfl, rfl⟩
              · rintro (h | ⟨k, hk, y', e1, e2, e3, e4, e5⟩)
                · exact .inl (.inl h)
                · rcases Nat.lt_succ_iff_lt_or_eq.mp hk with h | h
                  · exact .inl (.inr ⟨k, h, y', e1, e2, e3, e4, e5⟩)
                  · subst h
                    rw [hy] at e1
                    cases e1
                    exact .inr ⟨e4, e5⟩
            · rw [if_neg hop]
              exact nst_next (skip (.inr fun h => hop ((opn y q hq3).mpr h)))
      · rintro A' N4 ⟨z7', rfl, hN4, hn4⟩
        rw [List.length_map, List.length_map] at hN4 hn4
        have hn4 : N4.n ≤ 44 * i + 12 + 4 * (c.folls x r).length := hn4
        refine ⟨_, _, rfl, hN4.iff fun a b => ?_, by omega⟩
        subst hD
        constructor
        · rintro ((((⟨k, hk, u⟩ | ⟨rfl, rfl⟩) | ⟨hs, rfl, rfl⟩) | ⟨hg, rfl, rfl⟩) | ⟨k, hk, y, e1, e2, e3, rfl, rfl⟩)
          · exact ⟨k, Nat.lt_succ_of_lt hk, u⟩
          · exact ⟨i, Nat.lt_succ_self _, x, hx, .io⟩
          · exact ⟨i, Nat.lt_succ_self _, x, hx, .s hr3 hs⟩
          · exact ⟨i, Nat.lt_succ_self _, x, hx, .g hr3 hg⟩
          · exact ⟨i, Nat.lt_succ_self _, x, hx, .f hr3 (List.mem_of_getElem? e1) e2 e3⟩
        · rintro ⟨k, hk, y, e1, e⟩
          rcases Nat.lt_succ_iff_lt_or_eq.mp hk with h | h
          · exact .inl (.inl (.inl (.inl ⟨k, h, y, e1, e⟩)))
          · subst h
            rw [hx] at e1
            cases e1
            cases e with
            | io => exact .inl (.inl (.inl (.inr ⟨rfl, rfl⟩)))
            | s h1 h2 =>
              rw [hr3] at h1
              cases h1
              exact .inl (.inl (.inr ⟨h2, rfl, rfl⟩))
            | g h1 h2 =>
              rw [hr3] at h1
              cases h1
              exact .inl (.inr ⟨h2, rfl, rfl⟩)
            | f h1 h2 h3 h4 =>
              rw [hr3] at h1
              cases h1
              obtain ⟨k', hk'⟩ := List.mem_iff_getElem?.mp h2
              exact .inr ⟨k', (List.getElem?_eq_some_iff.mp hk').1, _, hk', h3, h4, rfl, rfl⟩
  · rintro A' N' ⟨z6, z7, rfl, hN, hn⟩
    rw [List.length_map, List.length_map] at hN hn
    refine ⟨hN.iff fun p q => ?_, by omega⟩
    constructor
    · rintro ⟨j, hj, x, e1, e⟩
      exact ⟨x, List.mem_of_getElem? e1, e⟩
    · rintro ⟨x, hx, e⟩
      obtain ⟨j, hj⟩ := List.mem_iff_getElem?.mp hx
      exact ⟨j, (List.getElem?_eq_some_iff.mp hj).1, x, hj, e⟩
end Wp
/-! The net: found_from_start. -/
namespace Wp
open PySem PySem.Spec PyProof.Rows L2
variable {P : Program} {w : World} {K : PySem.W.Frag} {mg : Str → Option Value} {base : Heap} {CM CN CA : Addr}
def ahL (ah : NK → Option (List NK)) (p : NK) : List NK := (ah p).getD []
structure Fnd (lf : LF) (ah : NK → Option (List NK)) (rows : List NK) (s : NK → Option (Option NK)) (at_ : Nat) : Prop where
  nd : rows.Nodup
  hd : rows[0]? = some pStart
  mem : ∀ k, (s k).isSome = true ↔ k ∈ rows
  s0 : s pStart = some none
  par : ∀ k p, s k = some (some p) → ∃ (i j : Nat), rows[i]? = some p ∧ rows[j]? = some k ∧ i < j ∧ 0 < flow lf p k ∧ k ∈ ahL ah p
  root : ∀ k, s k = some none → k = pStart
  done : ∀ i, i < at_ → ∀ p, rows[i]? = some p → ∀ q ∈ ahL ah p, 0 < flow lf p q → q ∈ rows
def optK : Option NK → PyData
  | none => .none
  | some p => p.data
def srcD (s : NK → Option (Option NK)) : NK → Option PyData := fun k => (s k).map optK
theorem srcD_noL (s : NK → Option (Option NK)) : ∀ k d, srcD s k = some d → noL d = true := fun k d h => by
  unfold srcD at h
  cases e : s k with
  | none => rw [e] at h; cases h
  | some o =>
    rw [e] at h
    cases h
    cases o with
    | none => rfl
    | some p => exact nk_noL p
theorem srcD_put (s : NK → Option (Option NK)) (q p : NK) : putM' (datF K (srcD s)) q (dat K p.data) = datF K (srcD fun j => if j = q then some (some p) else s j) := by
  funext j
  show (if j = q then some (dat K p.data) else ((s j).map optK).map (dat K)) = ((if j = q then some (some p) else s j).map optK).map (dat K)
  by_cases e : j = q
  · rw [if_pos e, if_pos e]; rfl
  · rw [if_neg e, if_neg e]
theorem srcD_one : oneK "start" (dN K) = datF K (srcD fun j => if j = pStart then some none else none) := by
  funext j
  show (if j = pStart then some (dN K) else none) = ((if j = pStart then some none else none).map optK).map (dat K)
  by_cases e : j = pStart
  · rw [if_pos e, if_pos e]; rfl
  · rw [if_neg e, if_neg e]; rfl
structure IFnd where
  i : INet
  pts : List NK
  few : pts.length ≤ 1000
  hs : pStart ∈ pts
  adj : ∀ p, ∀ q ∈ ahL i.ah p, q ∈ pts ∧ IsPt q ∧ i.lf (pr p q) ≠ none
def spFnd (K : PySem.W.Frag) (w : World) (CN : Addr) : Sp := SpRQ K (fun i : IFnd => [i.i.m K w CN]) fun i o => ∃ rows s m, o = .dct w (datF K (srcD s)) m ∧ m ≤ 1000 ∧ Fnd i.i.lf i.i.ah rows s rows.length ∧ (∀ p ∈ rows, IsPt p) ∧ rows.length ≤ 1000
abbrev s_Net_found_from_start : Stmt := inClass (top 11) 2
abbrev n_Net_found_from_start : List Str := ["self", "sources", "rows", "at", "point"]
abbrev p_Net_found_from_start : List Str := ["self"]
theorem sc_Net_found_from_start : FnScope n_Net_found_from_start p_Net_found_from_start (defScope s_Net_found_from_start) := ⟨rfl, rfl, rfl, by decide +kernel, rfl, by decide +kernel, by decide +kernel⟩
theorem datas_snoc (l : List NK) (q : NK) : datas (l ++ [q]) = datas l ++ [q.data] := by
  unfold datas
  rw [List.map_append]
  rfl
theorem flow_pos {lf : LF} {p q : NK} {v : Int} (h : lf (pr p q) = some v) : flow lf p q = v := by
  unfold flow
  rw [h]
  rfl
theorem ok_found {f : Addr} {fd : FuncData} (Fn : L2.Fun K "found_from_start" "Net.found_from_start" s_Net_found_from_start f fd) (T : Txt K mg CM CN CA) : FnOk P w K mg base CX0 1 f fd p_Net_found_from_start (spFnd K w CN) := by
  refine fun_okRQ Fn sc_Net_found_from_start (fun i => rfl) fun cdv A outer s H E hr => ?_
  have hu64 := hu64_of hr
  refine ⟨_, (pss_cons (ps_set (i := 1) sc_Net_found_from_start.nd rfl (Or.inl rfl) pe_disp1)
      (pss_cons (ps_set (i := 2) sc_Net_found_from_start.nd rfl (Or.inl rfl) (pe_lst (pa_cons pe_str pa_nil)))
      (pss_cons (ps_set (i := 3) sc_Net_found_from_start.nd rfl (Or.inl rfl) pe_int)
      (pss_cons (ps_while PassesOwn.never (pt_cmpR op_lt (pv 3) (pe_callB call_lenA (by rfl) T.b_len PySem.boot_len (pa_cons (pv 2) pa_nil)) (nomark _)) (pss_cons (ps_for PassesOwn.never rfl (pi_list (pe_nm PySem.F.plainAttrs_dict PySem.F.slot_dict_get PySem.F.type_dict_get (mt_nget hu64) (pe_fld (pv 0) rfl) (pa_cons (pe_ix ix_list (pv 2) (pv 3) (fun _ _ => rfl)) (pa_cons (pe_lst pa_nil) pa_nil)))) (pg_name (i := 4) sc_Net_found_from_start.nd rfl (Or.inl rfl)) (pss_one (ps_if (PW.pt (pw_and (pt_cmpR (op_nnotin hu64) (pv 4) (pv 1) (by with_unfolding_all rfl)) (pw_and1 (pt_cmpR op_gt (pe_ix (ix_n hu64) (pe_fld (pv 0) rfl) (pe_tup (pa_cons (pe_ix ix_list (pv 2) (pv 3) (fun _ _ => rfl)) (pa_cons (pv 4) pa_nil))) (fun _ _ => rfl)) pe_int (nomark _))))) (pss_cons (ps_asg (pe_ix ix_list (pv 2) (pv 3) (fun _ _ => rfl)) (pg_sub (pv 1) (pv 4) (set_n hu64)))
      (pss_one (ps_expr (pe_bm PySem.F.plainAttrs_list PySem.F.slot_list_append PySem.F.type_list_append mt_append (pv 2) (pa_cons (pv 4) pa_nil))))) pss_nil)))
      (pss_one (ps_aug (i := 3) sc_Net_found_from_start.nd rfl (Or.inl rfl) pe_int ip_add))))
      (pss_one (ps_ret (pv 1))))))), fun i => ?_⟩
  obtain ⟨⟨lf, ah, n, hn⟩, pts, few, hs, adj⟩ := i
  have adj : ∀ p, ∀ q ∈ ahL ah p, q ∈ pts ∧ IsPt q ∧ lf (pr p q) ≠ none := adj
  show ASt K _ [some (.d (netP K w CN lf ah n)), none, none, none, none] _
  refine ast_seq (ast_asgD ?_)
  rw [srcD_one]
  refine ast_seq (ast_asgN (evn_lst (eva_1 (evp_str ⟨[pStart.data], by rw [start_data]; rfl, by simp, ?_⟩))))
  refine ast_seq (ast_asg (evp_int ?_))
  show ASt K _ [some (.d (netP K w CN lf ah n)), some (.own (.dct w (datF K (srcD fun j => if j = pStart then some none else none)) 1)), some (.own (.lst (datas [pStart]))), some (.d (dI K 0)), none] _
  have f0 : Fnd lf ah [pStart] (fun j => if j = pStart then some none else none) 0 := by
    refine ⟨by simp, rfl, fun k => ?_, if_pos rfl, fun k p h => ?_, fun k h => ?_, fun i h => absurd h (Nat.not_lt_zero _)⟩
    · by_cases e : k = pStart
      · rw [if_pos e]; simp [e]
      · rw [if_neg e]; simp [e]
    · by_cases e : k = pStart
      · rw [if_pos e] at h; cases h
      · rw [if_neg e] at h; cases h
    · by_cases e : k = pStart
      · exact e
      · rw [if_neg e] at h; cases h
  refine ast_seq (ast_while (fun m A' => ∃ (rows : List NK) (s : NK → Option (Option NK)) (at_ : Nat) (z : Option Sl), m = 1000 - at_ ∧ at_ ≤ rows.length ∧ Fnd lf ah rows s at_ ∧ (∀ p ∈ rows, IsPt p ∧ p ∈ pts) ∧
    A' = [some (.d (netP K w CN lf ah n)), some (.own (.dct w (datF K (srcD s)) rows.length)), some (.own (.lst (datas rows))), some (.d (dI K (at_ : Nat))), z]) 1000 ⟨[pStart], _, 0, none, rfl, Nat.zero_le _, f0, fun p hp => by rw [List.mem_singleton.mp hp]; exact ⟨.start, hs⟩, rfl⟩ ?_)
  rintro m A' ⟨rows, sr, at_, z, rfl, hat, hF, hP, rfl⟩
  have rl : rows.length ≤ 1000 := Nat.le_trans (nodup_len hF.nd fun p hp => (hP p hp).2) few
  have dl : (datas rows).length = rows.length := List.length_map _
  refine evt_thaw (i := 2) rfl (evt_test (evp_op (evp_var rfl (evp_cb (eva_v1 rfl (cok_lenL (rok_b ⟨_, rfl, ?_⟩)))))))
  rw [dl]
  by_cases hlt : at_ < rows.length
  · rw [decide_eq_true (by omega : (at_ : Int) < ((rows.length : Nat) : Int))]
    obtain ⟨p, hp⟩ : ∃ p, rows[at_]? = some p := ⟨_, List.getElem?_eq_getElem hlt⟩
    have hpr : p ∈ rows := List.mem_of_getElem? hp
    have hpp : IsPt p := (hP p hpr).1
    have hds : (datas rows)[at_]? = some p.data := by unfold datas; rw [List.getElem?_map, hp]; rfl
    refine ast_seq (ast_for (evi_list (evp_nget (f := fun k => (ah k).map fun l => dL K (datas l)) (n := n) (k := p) (m := dL K []) (Nat.le_of_lt hn) (okk_pt hpp) (evp_fld (evp_var rfl ⟨CN, _, _, rfl, T.clN, T.n_ahead, rfl, rfl, ?_⟩)))))
    refine eva_cons (evp_thaw (i := 2) rfl (evp_op (evp_var rfl (evp_var rfl (rok_ixL (d := p.data) (atI_nat hds) ⟨p.data, rfl, nk_noL p, ?_⟩)))))
    refine eva_1 (evn_p (evn_lst (eva_nil ⟨[], rfl, by simp, rfl, ?_⟩)))
    have eg : (((ah p).map fun l => dL K (datas l)).getD (dL K [])) = dL K (datas (ahL ah p)) := by unfold ahL; cases ah p <;> rfl
    rw [eg]
    refine ⟨_, rfl, ?_⟩
    refine ⟨fun j A2 => ∃ (t : List NK) (sr : NK → Option (Option NK)) (z : Option Sl), Fnd lf ah (rows ++ t) sr at_ ∧ (∀ p ∈ rows ++ t, IsPt p ∧ p ∈ pts) ∧ (∀ k, k < j → ∀ q, (ahL ah p)[k]? = some q → 0 < flow lf p q → q ∈ rows ++ t) ∧
      A2 = [some (.d (netP K w CN lf ah n)), some (.own (.dct w (datF K (srcD sr)) (rows ++ t).length)), some (.own (.lst (datas (rows ++ t)))), some (.d (dI K (at_ : Nat))), z],
      ⟨[], sr, z, by rw [List.append_nil]; exact hF, by rw [List.append_nil]; exact hP, fun k h => absurd h (Nat.not_lt_zero _), by rw [List.append_nil]⟩, ?_, ?_⟩
    · rintro j m A2 hm ⟨t, sr, z2, hF2, hP2, hcl, rfl⟩
      have rl2 : (rows ++ t).length ≤ 1000 := Nat.le_trans (nodup_len hF2.nd fun p hp => (hP2 p hp).2) few
      unfold datas at hm
      rw [List.map_map, List.getElem?_map] at hm
      cases hq : (ahL ah p)[j]? with
      | none => rw [hq] at hm; cases hm
      | some q =>
        rw [hq] at hm
        cases hm
        obtain ⟨hq1, hq2, hq3⟩ := adj p q (List.mem_of_getElem? hq)
        obtain ⟨v, hv⟩ : ∃ v, lf (pr p q) = some v := by
          cases e : lf (pr p q) with
          | none => exact absurd e hq3
          | some v => exact ⟨v, rfl⟩
        have next : ∀ (t' : List NK) (sr' : NK → Option (Option NK)), Fnd lf ah (rows ++ t') sr' at_ → (∀ p ∈ rows ++ t', IsPt p ∧ p ∈ pts) → (∀ a ∈ rows ++ t, a ∈ rows ++ t') → (0 < flow lf p q → q ∈ rows ++ t') →
            ∃ (t : List NK) (sr : NK → Option (Option NK)) (z : Option Sl), Fnd lf ah (rows ++ t) sr at_ ∧ (∀ p ∈ rows ++ t, IsPt p ∧ p ∈ pts) ∧ (∀ k, k < j + 1 → ∀ q, (ahL ah p)[k]? = some q → 0 < flow lf p q → q ∈ rows ++ t) ∧
            [some (.d (netP K w CN lf ah n)), some (.own (.dct w (datF K (srcD sr')) (rows ++ t').length)), some (.own (.lst (datas (rows ++ t')))), some (.d (dI K (at_ : Nat))), some (.d (dat K q.data))] =
            [some (.d (netP K w CN lf ah n)), some (.own (.dct w (datF K (srcD sr)) (rows ++ t).length)), some (.own (.lst (datas (rows ++ t)))), some (.d (dI K (at_ : Nat))), z] := by
          intro t' sr' h1 h2 h3 h4
          refine ⟨t', sr', _, h1, h2, fun k hk a ha hf => ?_, rfl⟩
          rcases Nat.lt_succ_iff_lt_or_eq.mp hk with h | h
          · exact h3 a (hcl k h a ha hf)
          · subst h
            rw [hq] at ha
            cases ha
            exact h4 hf
        refine as_name (ast_if (evt_and (evt_thaw (i := 1) rfl (evt_test (evp_op (evp_var rfl (evp_var rfl (rok_nnin (f := datF K (srcD sr)) (n := (rows ++ t).length) (k := q) (by omega) (okk_pt hq2) ⟨_, rfl, ?_⟩))))))))
        have em : (datF K (srcD sr) q).isSome = (sr q).isSome := by unfold datF srcD; cases sr q <;> rfl
        rw [em]
        cases hsq : (sr q).isSome with
        | true =>
          exact ast_next (next t sr hF2 hP2 (fun a h => h) fun _ => (hF2.mem q).mp hsq)
        | false =>
          have hqn : q ∉ rows ++ t := fun h => by
            rw [(hF2.mem q).mpr h] at hsq
            cases hsq
          have hds2 : (datas (rows ++ t))[at_]? = some p.data := by unfold datas; rw [List.getElem?_map, List.getElem?_append_left hlt, hp]; rfl
          refine evt_thaw (i := 2) rfl (evt_test (evp_op (evp_op (evp_fld (evp_var rfl ⟨CN, _, _, rfl, T.clN, T.n_left, rfl, ?_⟩)))))
          refine evp_tup (eva_cons (evp_op (evp_var rfl (evp_var rfl (rok_ixL (d := p.data) (atI_nat hds2) (eva_1 (evp_var rfl ⟨[p.data, q.data], rfl, by simp, ?_⟩)))))))
          rw [pr_dat]
          refine rok_nget (f := fun k => (lf k).map (dI K)) (m := dI K v) (Nat.le_of_lt hn) (okk_pr hpp hq2) (by rw [hv]; rfl) (evp_int (rok_b ⟨_, rfl, ?_⟩))
          have efl := flow_pos hv
          show if decide (0 < v) = true then _ else _
          by_cases hpos : 0 < v
          · rw [decide_eq_true hpos]
            refine ast_seq (ast_dput (i := 1) (k := q) rfl (by omega) (okk_pt hq2) (evp_thaw (i := 2) rfl (evp_op (evp_var rfl (evp_var rfl (rok_ixL (d := p.data) (atI_nat hds2) ⟨p.data, rfl, nk_noL p, evp_var rfl ⟨rfl, ?_⟩⟩))))))
            show ASt K _ [some (.d (netP K w CN lf ah n)), some (.own (.dct w (putM' (datF K (srcD sr)) q (dat K p.data)) ((rows ++ t).length + 1))), some (.own (.lst (datas (rows ++ t)))), some (.d (dI K (at_ : Nat))), some (.d (dat K q.data))] _
            rw [srcD_put]
            refine ast_append (i := 2) rfl (by have : (datas (rows ++ t)).length = (rows ++ t).length := List.length_map _; omega) (evp_var rfl ⟨q.data, rfl, ?_⟩)
            rw [← datas_snoc]
            have ea : rows ++ t ++ [q] = rows ++ (t ++ [q]) := List.append_assoc _ _ _
            rw [ea]
            have el : (rows ++ t).length + 1 = (rows ++ (t ++ [q])).length := by rw [← ea, List.length_append (as := rows ++ t)]; rfl
            have z := next (t ++ [q]) (fun j => if j = q then some (some p) else sr j) ?_ ?_ ?_ ?_
            · rw [← el] at z
              exact z
            · rw [← ea]
              have hlq : (rows ++ t)[(rows ++ t).length]? = none := List.getElem?_eq_none (Nat.le_refl _)
              have getl : ∀ {i : Nat} {a : NK}, (rows ++ t)[i]? = some a → (rows ++ t ++ [q])[i]? = some a := fun {i a} h => by
                rw [List.getElem?_append_left (List.getElem?_eq_some_iff.mp h).1]
                exact h
              refine ⟨?_, getl hF2.hd, fun k => ?_, ?_, fun k p' h => ?_, fun k h => ?_, fun i hi a ha b hb hf => ?_⟩
              · rw [List.nodup_append]
                refine ⟨hF2.nd, by simp, fun a ha b hb e => ?_⟩
                rw [List.mem_singleton.mp hb] at e
                exact hqn (e ▸ ha)
              · rw [List.mem_append, List.mem_singleton, ← hF2.mem k]
                by_cases e : k = q
                · rw [if_pos e]; simp [e]
                · rw [if_neg e]; simp [e]
              · have e : ¬ pStart = q := fun e => by
                  have := hF2.s0
                  rw [e] at this
                  rw [this] at hsq
                  cases hsq
                rw [if_neg e]
                exact hF2.s0
              · by_cases e : k = q
                · rw [if_pos e] at h
                  have ep : p = p' := Option.some.inj (Option.some.inj h)
                  subst ep
                  refine ⟨at_, (rows ++ t).length, getl (by rw [List.getElem?_append_left hlt]; exact hp), ?_, by rw [List.length_append]; omega, by rw [e, efl]; exact hpos, by rw [e]; exact List.mem_of_getElem? hq⟩
                  rw [List.getElem?_append_right (Nat.le_refl _), Nat.sub_self, e]
                  rfl
                · rw [if_neg e] at h
                  obtain ⟨i', j', h1, h2, h3, h4, h5⟩ := hF2.par k p' h
                  exact ⟨i', j', getl h1, getl h2, h3, h4, h5⟩
              · by_cases e : k = q
                · rw [if_pos e] at h; cases h
                · rw [if_neg e] at h; exact hF2.root k h
              · have hil : i < (rows ++ t).length := by rw [List.length_append]; omega
                rw [List.getElem?_append_left hil] at ha
                exact List.mem_append_left _ (hF2.done i hi a ha b hb hf)
            · intro a ha
              rw [← ea] at ha
              rcases List.mem_append.mp ha with h | h
              · exact hP2 a h
              · rw [List.mem_singleton.mp h]
                exact ⟨hq2, hq1⟩
            · intro a ha
              rw [← ea]
              exact List.mem_append_left _ ha
            · intro _
              rw [← ea]
              exact List.mem_append_right _ (List.mem_singleton.mpr rfl)
          · rw [decide_eq_false hpos]
            exact ast_next (next t sr hF2 hP2 (fun a h => h) fun h => absurd (efl ▸ h) hpos)
    · rintro A2 ⟨t, sr2, z2, hF2, hP2, hcl, rfl⟩
      refine ast_aug (i := 3) rfl (evp_int ⟨1, rfl, ?_⟩)
      refine ⟨1000 - (at_ + 1), by omega, rows ++ t, sr2, at_ + 1, z2, rfl, by rw [List.length_append]; omega, ⟨hF2.nd, hF2.hd, hF2.mem, hF2.s0, hF2.par, hF2.root, fun i hi a ha b hb hf => ?_⟩, hP2, rfl⟩
      rcases Nat.lt_succ_iff_lt_or_eq.mp hi with h | h
      · exact hF2.done i h a ha b hb hf
      · subst h
        rw [List.getElem?_append_left hlt, hp] at ha
        cases ha
        obtain ⟨k, hk⟩ := List.mem_iff_getElem?.mp hb
        refine hcl k ?_ b hk hf
        rw [List.length_map]
        unfold datas
        rw [List.length_map]
        exact (List.getElem?_eq_some_iff.mp hk).1
  · rw [decide_eq_false (by omega : ¬ (at_ : Int) < ((rows.length : Nat) : Int))]
    have e : at_ = rows.length := by omega
    subst e
    exact ast_retO (i := 1) rfl ⟨rows, sr, rows.length, rfl, rl, hF, fun p hp => (hP p hp).1, rl⟩
end Wp
/-! The net: push. -/
namespace Wp
open PySem PySem.Spec PyProof.Rows L2
/-! ### sums -/
def sumZ {α : Type} (f : α → Int) : List α → Int
  | [] => 0
  | a :: l => f a + sumZ f l
theorem sumZ_congr {α : Type} {f g : α → Int} : ∀ {l : List α}, (∀ a ∈ l, f a = g a) → sumZ f l = sumZ g l
  | [], _ => rfl
  | a :: l, h => by
    show f a + _ = g a + _
    rw [h a List.mem_cons_self, sumZ_congr (l := l) fun b hb => h b (List.mem_cons_of_mem _ hb)]
theorem sumZ_upd {α : Type} {f g : α → Int} {c : α} : ∀ {l : List α}, l.Nodup → c ∈ l → (∀ a, a ≠ c → g a = f a) → sumZ g l = sumZ f l + (g c - f c)
  | [], _, h, _ => by cases h
  | a :: l, nd, h, e => by
    have nd' := List.nodup_cons.mp nd
    show g a + sumZ g l = f a + sumZ f l + (g c - f c)
    rcases List.mem_cons.mp h with h | h
    · subst h
      rw [sumZ_congr (f := g) (g := f) (l := l) fun b hb => e b fun z => nd'.1 (z ▸ hb)]
      omega
    · have na : a ≠ c := fun z => nd'.1 (z ▸ h)
      rw [e a na, sumZ_upd nd'.2 h e]
      omega
def ex (lf : LF) (L : List NK) (v : NK) : Int := sumZ (fun q => flow lf v q) L
def one (b : Prop) [Decidable b] : Int := if b then 1 else 0
/-- one unit more from the start to the goal -/
structure Aug (pts : List NK) (lf lf' : LF) : Prop where
  key : ∀ k, lf' k = none ↔ lf k = none
  sym : ∀ p q, flow lf' p q + flow lf' q p = flow lf p q + flow lf q p
  pos : (∀ p q, 0 ≤ flow lf p q) → ∀ p q, 0 ≤ flow lf' p q
  sum : ∀ v, ex lf' pts v = ex lf pts v + one (v = pGoal) - one (v = pStart)
/-- on the way: c is the point, at ic in the rows -/
structure AugI (pts rows : List NK) (lf l : LF) (c : NK) (ic : Nat) : Prop where
  at_ : rows[ic]? = some c
  key : ∀ k, l k = none ↔ lf k = none
  sym : ∀ p q, flow l p q + flow l q p = flow lf p q + flow lf q p
  pos : (∀ p q, 0 ≤ flow lf p q) → ∀ p q, 0 ≤ flow l p q
  low : ∀ i q, rows[i]? = some q → i ≤ ic → ∀ p, flow lf p q ≤ flow l p q
  sum : ∀ v, ex l pts v = ex lf pts v + one (v = pGoal) - one (v = c)
def stepL (l : LF) (b c : NK) (x y : Int) : LF := fun j => if j = pr c b then some (y + 1) else (if j = pr b c then some (x - 1) else l j)
theorem step_flow {l : LF} {b c : NK} {x y : Int} (ne : b ≠ c) (hx : flow l b c = x) (hy : flow l c b = y) (p q : NK) : flow (stepL l b c x y) p q = flow l p q + one (p = c ∧ q = b) - one (p = b ∧ q = c) := by
  unfold flow stepL one
  by_cases e1 : p = c ∧ q = b
  · obtain ⟨rfl, rfl⟩ := e1
    have n2 : ¬ (p = q ∧ q = p) := fun h => ne h.2
    rw [if_pos rfl, if_pos ⟨rfl, rfl⟩, if_neg n2]
    show y + 1 = _
    unfold flow at hy
    rw [hy]
    omega
  · have n1 : pr p q ≠ pr c b := fun h => e1 (pr_inj h)
    rw [if_neg n1, if_neg e1]
    by_cases e2 : p = b ∧ q = c
    · obtain ⟨rfl, rfl⟩ := e2
      rw [if_pos rfl, if_pos ⟨rfl, rfl⟩]
      show x - 1 = _
      unfold flow at hx
      rw [hx]
      omega
    · have n2 : pr p q ≠ pr b c := fun h => e2 (pr_inj h)
      rw [if_neg n2, if_neg e2]
      omega
theorem AugI.step {pts rows : List NK} {lf l : LF} {b c : NK} {ic ib : Nat} {x y : Int} (h : AugI pts rows lf l c ic) (nd : pts.Nodup) (rnd : rows.Nodup) (sub : ∀ p ∈ rows, p ∈ pts) (hb : rows[ib]? = some b) (lt : ib < ic) (hpos : 0 < flow lf b c) (hx : l (pr b c) = some x) (hy : l (pr c b) = some y) :
    AugI pts rows lf (stepL l b c x y) b ib := by
  have ne : b ≠ c := fun e => by
    subst e
    have := (List.getElem?_inj (List.getElem?_eq_some_iff.mp hb).1 rnd).mp (hb.trans h.at_.symm)
    omega
  have fx : flow l b c = x := flow_pos hx
  have fy : flow l c b = y := flow_pos hy
  have sf := step_flow (l := l) ne fx fy
  have cpt : c ∈ pts := sub c (List.mem_of_getElem? h.at_)
  have bpt : b ∈ pts := sub b (List.mem_of_getElem? hb)
  refine ⟨hb, fun k => ?_, fun p q => ?_, fun hp p q => ?_, fun i q hi hle p => ?_, fun v => ?_⟩
  · rw [← h.key k]
    unfold stepL
    by_cases e1 : k = pr c b
    · rw [if_pos e1, e1, hy]; simp
    · rw [if_neg e1]
      by_cases e2 : k = pr b c
      · rw [if_pos e2, e2, hx]; simp
      · rw [if_neg e2]
  · rw [sf, sf, ← h.sym p q]
    have e1 : one (q = c ∧ p = b) = one (p = b ∧ q = c) := by unfold one; simp only [And.comm]
    have e2 : one (q = b ∧ p = c) = one (p = c ∧ q = b) := by unfold one; simp only [And.comm]
    rw [e1, e2]
    omega
  · rw [sf]
    have hz := h.pos hp p q
    have hlow := h.low ic c h.at_ (Nat.le_refl _) b
    unfold one
    by_cases e1 : p = c ∧ q = b <;> by_cases e2 : p = b ∧ q = c
    · rw [if_pos e1, if_pos e2]; omega
    · rw [if_pos e1, if_neg e2]; omega
    · rw [if_neg e1, if_pos e2, e2.1, e2.2]; omega
    · rw [if_neg e1, if_neg e2]; omega
  · rw [sf]
    have hz := h.low i q hi (by omega) p
    have nq : ¬ (p = b ∧ q = c) := fun e => by
      have h1 := h.at_
      rw [← e.2] at h1
      have := (List.getElem?_inj (List.getElem?_eq_some_iff.mp hi).1 rnd).mp (hi.trans h1.symm)
      omega
    unfold one
    rw [if_neg nq]
    split <;> omega
  · have hs := h.sum v
    by_cases e1 : v = c
    · have nb : v ≠ b := fun e => ne (e.symm.trans e1)
      have z : ex (stepL l b c x y) pts v = ex l pts v + 1 := by
        unfold ex
        rw [sumZ_upd (f := fun q => flow l v q) (c := b) nd bpt fun q hq => by
          show flow _ v q = flow l v q
          rw [sf]
          unfold one
          rw [if_neg fun z => hq z.2, if_neg fun z => nb z.1]
          omega]
        show _ + (flow (stepL l b c x y) v b - flow l v b) = _
        rw [sf]
        unfold one
        rw [if_pos ⟨e1, rfl⟩, if_neg fun z => nb z.1]
        omega
      rw [z, hs]
      unfold one
      rw [if_pos e1, if_neg nb]
      omega
    · by_cases e2 : v = b
      · have z : ex (stepL l b c x y) pts v = ex l pts v - 1 := by
          unfold ex
          rw [sumZ_upd (f := fun q => flow l v q) (c := c) nd cpt fun q hq => by
            show flow _ v q = flow l v q
            rw [sf]
            unfold one
            rw [if_neg fun z => e1 z.1, if_neg fun z => hq z.2]
            omega]
          show _ + (flow (stepL l b c x y) v c - flow l v c) = _
          rw [sf]
          unfold one
          rw [if_neg fun z => e1 z.1, if_pos ⟨e2, rfl⟩]
          omega
        rw [z, hs]
        unfold one
        rw [if_neg e1, if_pos e2]
        omega
      · have z : ex (stepL l b c x y) pts v = ex l pts v := sumZ_congr fun q _ => by
          show flow _ v q = flow l v q
          rw [sf]
          unfold one
          rw [if_neg fun z => e1 z.1, if_neg fun z => e2 z.1]
          omega
        rw [z, hs]
        unfold one
        rw [if_neg e1, if_neg e2]
variable {P : Program} {w : World} {K : PySem.W.Frag} {mg : Str → Option Value} {base : Heap} {CM CN CA : Addr}
/-- what push asks of the net -/
structure PreP (lf : LF) (ah : NK → Option (List NK)) (pts : List NK) : Prop where
  nd : pts.Nodup
  few : pts.length ≤ 1000
  hs : pStart ∈ pts
  adj : ∀ p, ∀ q ∈ ahL ah p, q ∈ pts ∧ IsPt q ∧ lf (pr p q) ≠ none
  sym : ∀ p q, lf (pr p q) ≠ none → lf (pr q p) ≠ none
def prePush (lf : LF) (ah : NK → Option (List NK)) : Prop := ∃ pts, PreP lf ah pts
abbrev postPush (lf : LF) (ah : NK → Option (List NK)) (lf' : LF) (b : Bool) : Prop :=
  (b = true → ∀ pts, PreP lf ah pts → Aug pts lf lf') ∧ (b = false → lf' = lf ∧ ∃ rows s, Fnd lf ah rows s rows.length ∧ pGoal ∉ rows)
def spPush (K : PySem.W.Frag) (w : World) (CN : Addr) : Sp := SpPush K w CN prePush postPush
abbrev s_Net_push : Stmt := inClass (top 11) 3
abbrev n_Net_push : List Str := ["self", "sources", "point", "before"]
abbrev p_Net_push : List Str := ["self"]
theorem sc_Net_push : FnScope n_Net_push p_Net_push (defScope s_Net_push) := ⟨rfl, rfl, rfl, by decide +kernel, rfl, by decide +kernel, by decide +kernel⟩
theorem rows_sub {lf : LF} {ah : NK → Option (List NK)} {pts rows : List NK} {s : NK → Option (Option NK)} (h : PreP lf ah pts) (hF : Fnd lf ah rows s rows.length) : ∀ p ∈ rows, p ∈ pts := fun p hp => by
  have hs := (hF.mem p).mpr hp
  cases e : s p with
  | none => rw [e] at hs; cases hs
  | some o =>
    cases o with
    | none => rw [hF.root p e]; exact h.hs
    | some q =>
      obtain ⟨_, _, _, _, _, _, hA⟩ := hF.par p q e
      exact (h.adj q p hA).1
theorem evp_goal {A : AS} {P : MP → Prop} (q : P (dat K pGoal.data)) : EvP K (tC (.str "goal")) A P := evp_str (by rw [goal_data] at q; exact q)
theorem ok_push {f : Addr} {fd : FuncData} (Fn : L2.Fun K "push" "Net.push" s_Net_push f fd) (T : Txt K mg CM CN CA) (c_Net_found_from_start : C8.Met P w K mg base 1 CN "found_from_start" (spFnd K w CN) []) : FnOk P w K mg base CX0 2 f fd p_Net_push (spPush K w CN) := by
  refine push_ok Fn sc_Net_push rfl fun cdv A outer s H E hr => ?_
  have hu64 := hu64_of hr
  refine ⟨_, (pss_cons (ps_set (i := 1) sc_Net_push.nd rfl (Or.inl rfl) (C8.pe_mt0 c_Net_found_from_start hr (by decide) (pv 0)))
      (pss_cons (ps_if (pt_cmpR (op_nnotin hu64) pe_str (pv 1) (by with_unfolding_all rfl)) (pss_one (ps_ret pe_bl)) pss_nil)
      (pss_cons (ps_set (i := 2) sc_Net_push.nd rfl (Or.inl rfl) pe_str)
      (pss_cons (ps_while PassesOwn.never (pt_cmpR op_notN1 (pe_ix (ix_n hu64) (pv 1) (pv 2) (fun _ _ => rfl)) pe_non (nomark _)) (pss_cons (ps_set (i := 3) sc_Net_push.nd rfl (Or.inl rfl) (pe_ix (ix_n hu64) (pv 1) (pv 2) (fun _ _ => rfl)))
      (pss_cons (ps_augS (pe_fld (pv 0) rfl) (pe_tup (pa_cons (pv 3) (pa_cons (pv 2) pa_nil))) (get_n hu64) pe_int ip_sub (set_n hu64))
      (pss_cons (ps_augS (pe_fld (pv 0) rfl) (pe_tup (pa_cons (pv 2) (pa_cons (pv 3) pa_nil))) (get_n hu64) pe_int ip_add (set_n hu64))
      (pss_one (ps_set (i := 2) sc_Net_push.nd rfl (Or.inl rfl) (pv 3)))))))
      (pss_one (ps_ret pe_bl)))))), fun dl lf ah n hn hpre => ?_⟩
  obtain ⟨pts0, hp0⟩ := hpre
  show LSt K w dl n _ [some (.d (netF K w CN dl ah n)), none, none, none] lf _ _
  refine lst_seq (lst_fndQ (i := 1) (j := 0) rfl (by decide) ⟨⟨lf, ah, n, hn⟩, pts0, hp0.few, hp0.hs, hp0.adj⟩ rfl fun o ho => ?_)
  obtain ⟨rows, sr, m, rfl, hm, hF, hP, hrl⟩ := ho
  have hF : Fnd lf ah rows sr rows.length := hF
  refine ⟨srcD sr, m, rfl, srcD_noL sr, ?_⟩
  show LSt K w dl n _ [some (.d (netF K w CN dl ah n)), some (.d (mdM K w (datF K (srcD sr)) m)), none, none] lf _ _
  have hm' : m ≤ 100000 := Nat.le_trans hm (by decide)
  have hsome : ∀ k, (datF K (srcD sr) k).isSome = (sr k).isSome := fun k => by unfold datF srcD; cases sr k <;> rfl
  have hval : ∀ k o, sr k = some o → datF K (srcD sr) k = some (dat K (optK o)) := fun k o e => by unfold datF srcD; rw [e]; rfl
  refine lst_seq (lst_if (evt_test (evp_op (evp_goal (evp_var rfl (rok_nnin (f := datF K (srcD sr)) (n := m) (k := pGoal) hm' (okk_pt .goal) ⟨_, rfl, ?_⟩))))))
  rw [hsome]
  cases hgs : (sr pGoal).isSome with
  | false =>
    refine lst_ret (evp_bl ⟨false, rfl, And.intro (fun e => absurd e (by decide)) (fun _ => ⟨rfl, rows, sr, hF, fun h => ?_⟩)⟩)
    rw [(hF.mem pGoal).mpr h] at hgs
    cases hgs
  | true =>
    refine lst_next ?_
    refine lst_seq (lst_asg (evp_goal ?_))
    have hgr : pGoal ∈ rows := (hF.mem pGoal).mp hgs
    obtain ⟨ig, hig⟩ := List.mem_iff_getElem?.mp hgr
    show LSt K w dl n _ [some (.d (netF K w CN dl ah n)), some (.d (mdM K w (datF K (srcD sr)) m)), some (.d (dat K pGoal.data)), none] lf _ _
    refine lst_seq (lst_while (fun k A' l => ∃ c z, (∀ pts, PreP lf ah pts → AugI pts rows lf l c k) ∧ rows[k]? = some c ∧ (∀ j, l j = none ↔ lf j = none) ∧ A' = [some (.d (netF K w CN dl ah n)), some (.d (mdM K w (datF K (srcD sr)) m)), some (.d (dat K c.data)), z]) ig ⟨pGoal, none, fun pts hpp => ⟨hig, fun k => Iff.rfl, fun p q => rfl, fun h => h, fun i q _ _ p => Int.le_refl _, fun v => by omega⟩, hig, fun k => Iff.rfl, rfl⟩ ?_)
    rintro k A' l ⟨c, z, hI, hc, hkey, rfl⟩
    have hcr : c ∈ rows := List.mem_of_getElem? hc
    have hcp : IsPt c := hP c hcr
    obtain ⟨o, ho⟩ : ∃ o, sr c = some o := by
      cases e : sr c with
      | none =>
        have := (hF.mem c).mpr hcr
        rw [e] at this
        cases this
      | some o => exact ⟨o, rfl⟩
    refine evt_test (evp_op (evp_op (evp_var rfl (evp_var rfl (rok_nget (f := datF K (srcD sr)) (n := m) (k := c) (m := dat K (optK o)) hm' (okk_pt hcp) (hval c o ho) (evp_non (rok_notN rfl ⟨_, rfl, ?_⟩)))))))
    cases o with
    | none =>
      show LSt K w dl n _ _ l _ _
      have ec := hF.root c ho
      subst ec
      exact lst_ret (evp_bl ⟨true, rfl, And.intro (fun _ pts hpp => ⟨(hI pts hpp).key, (hI pts hpp).sym, (hI pts hpp).pos, (hI pts hpp).sum⟩) (fun e => absurd e (by decide))⟩)
    | some b =>
      obtain ⟨ib, ic, hib, hic, hlt, hpos, hA⟩ := hF.par c b ho
      have eic : ic = k := (List.getElem?_inj (List.getElem?_eq_some_iff.mp hic).1 hF.nd).mp (hic.trans hc.symm)
      subst eic
      have hbp : IsPt b := hP b (List.mem_of_getElem? hib)
      have nb : nonB b.data = false := by cases hbp <;> simp [pStart, pGoal, inn, out, NestedKey.data, nonB]
      show if (!nonB b.data) = true then _ else _
      rw [nb]
      have keyx : ∃ x, l (pr b c) = some x := by
        cases e : l (pr b c) with
        | some x => exact ⟨x, rfl⟩
        | none =>
          have := (hkey _).mp e
          exact absurd this (hp0.adj b c hA).2.2
      have keyy : ∃ y, l (pr c b) = some y := by
        cases e : l (pr c b) with
        | some y => exact ⟨y, rfl⟩
        | none =>
          have := (hkey _).mp e
          exact absurd this (hp0.sym b c (hp0.adj b c hA).2.2)
      obtain ⟨x, hx⟩ := keyx
      obtain ⟨y, hy⟩ := keyy
      have npr : pr c b ≠ pr b c := fun e => by
        have := (pr_inj e).1
        subst this
        have := (List.getElem?_inj (List.getElem?_eq_some_iff.mp hib).1 hF.nd).mp (hib.trans hic.symm)
        omega
      refine lst_seq (lst_asg (evp_op (evp_var rfl (evp_var rfl (rok_nget (f := datF K (srcD sr)) (n := m) (k := c) (m := dat K b.data) hm' (okk_pt hcp) (hval c (some b) ho) ?_)))))
      refine lst_seq (lst_aug (k := pr b c) (a := x) (b := 1) hn (okk_pr hbp hcp) hx (evp_fld (evp_var rfl ⟨CN, _, _, rfl, T.clN, T.n_left, rfl, rfl, evp_tup (eva_v2 rfl rfl ⟨[b.data, c.data], rfl, by simp, by rw [pr_dat], evp_int ⟨rfl, ?_⟩⟩)⟩)))
      refine lst_seq (lst_aug (k := pr c b) (a := y) (b := 1) hn (okk_pr hcp hbp) (by show (if pr c b = pr b c then some (x - 1) else l (pr c b)) = some y; rw [if_neg npr, hy]) (evp_fld (evp_var rfl ⟨CN, _, _, rfl, T.clN, T.n_left, rfl, rfl, evp_tup (eva_v2 rfl rfl ⟨[c.data, b.data], rfl, by simp, by rw [pr_dat], evp_int ⟨rfl, ?_⟩⟩)⟩)))
      refine lst_asg (evp_var rfl ?_)
      have hstep : ∀ pts, PreP lf ah pts → AugI pts rows lf (stepL l b c x y) b ib := fun pts hpp => (hI pts hpp).step hpp.nd hF.nd (rows_sub hpp hF) hib hlt hpos hx hy
      exact ⟨ib, hlt, b, some (.d (dat K b.data)), hstep, hib, (hstep pts0 hp0).key, rfl⟩
end Wp
/-! The plain law of the net: what is found, what is cut. -/
namespace Wp
open PySem PySem.Spec PyProof.Rows L2
/-! ### sums -/
section
variable {α β : Type}
theorem sumZ_app (f : α → Int) : ∀ l m : List α, sumZ f (l ++ m) = sumZ f l + sumZ f m
  | [], m => by show sumZ f m = 0 + sumZ f m; omega
  | a :: l, m => by
    show f a + sumZ f (l ++ m) = f a + sumZ f l + sumZ f m
    rw [sumZ_app f l m]
    omega
theorem sumZ_zero (l : List α) : sumZ (fun _ => 0) l = 0 := by
  induction l with
  | nil => rfl
  | cons a l ih => show 0 + _ = _; rw [ih]; rfl
theorem sumZ_add (f g : α → Int) (l : List α) : sumZ (fun a => f a + g a) l = sumZ f l + sumZ g l := by
  induction l with
  | nil => rfl
  | cons a l ih => show f a + g a + _ = (f a + _) + (g a + _); rw [ih]; omega
theorem sumZ_sub' (f g : α → Int) (l : List α) : sumZ (fun a => f a - g a) l = sumZ f l - sumZ g l := by
  induction l with
  | nil => rfl
  | cons a l ih => show f a - g a + _ = (f a + _) - (g a + _); rw [ih]; omega
theorem sumZ_neg (f : α → Int) (l : List α) : sumZ (fun a => - f a) l = - sumZ f l := by
  induction l with
  | nil => rfl
  | cons a l ih => show - f a + _ = - (f a + _); rw [ih]; omega
theorem sumZ_swap (g : α → β → Int) (l : List α) (m : List β) : sumZ (fun a => sumZ (g a) m) l = sumZ (fun b => sumZ (fun a => g a b) l) m := by
  induction l with
  | nil => exact (sumZ_zero m).symm
  | cons a l ih =>
    show sumZ (g a) m + sumZ (fun a => sumZ (g a) m) l = _
    rw [ih, ← sumZ_add]
    rfl
theorem sumZ_nn {f : α → Int} : ∀ {l : List α}, (∀ a ∈ l, 0 ≤ f a) → 0 ≤ sumZ f l
  | [], _ => Int.le_refl _
  | a :: l, h => by
    have h1 := h a List.mem_cons_self
    have h2 := sumZ_nn (l := l) fun b hb => h b (List.mem_cons_of_mem _ hb)
    show 0 ≤ f a + sumZ f l
    omega
theorem sumZ_ge {f : α → Int} {a : α} : ∀ {l : List α}, (∀ a ∈ l, 0 ≤ f a) → a ∈ l → f a ≤ sumZ f l
  | [], _, h => by cases h
  | b :: l, h, ha => by
    have h1 := h b List.mem_cons_self
    have h2 := sumZ_nn (l := l) fun c hc => h c (List.mem_cons_of_mem _ hc)
    show f a ≤ f b + sumZ f l
    rcases List.mem_cons.mp ha with e | e
    · subst e; omega
    · have := sumZ_ge (l := l) (fun c hc => h c (List.mem_cons_of_mem _ hc)) e
      omega
theorem sumZ_two {f : α → Int} {a b : α} (ne : a ≠ b) : ∀ {l : List α}, (∀ a ∈ l, 0 ≤ f a) → a ∈ l → b ∈ l → f a + f b ≤ sumZ f l
  | [], _, h, _ => by cases h
  | c :: l, h, ha, hb => by
    have h1 := h c List.mem_cons_self
    have hl : ∀ a ∈ l, 0 ≤ f a := fun d hd => h d (List.mem_cons_of_mem _ hd)
    show f a + f b ≤ f c + sumZ f l
    rcases List.mem_cons.mp ha with e | e
    · rcases List.mem_cons.mp hb with e2 | e2
      · exact absurd (e.trans e2.symm) ne
      · have := sumZ_ge hl e2
        subst e
        omega
    · rcases List.mem_cons.mp hb with e2 | e2
      · have := sumZ_ge hl e
        subst e2
        omega
      · have := sumZ_two ne hl e e2
        omega
theorem sumZ_one {f : α → Int} {c : α} {l : List α} (nd : l.Nodup) (hc : c ∈ l) (h : ∀ a, a ≠ c → f a = 0) : sumZ f l = f c := by
  rw [sumZ_upd (f := fun _ => 0) nd hc h, sumZ_zero]
  omega
theorem sumZ_filter (f : α → Int) (p : α → Bool) (l : List α) : sumZ f l = sumZ f (l.filter p) + sumZ f (l.filter fun a => !p a) := by
  induction l with
  | nil => rfl
  | cons a l ih =>
    show f a + sumZ f l = _
    rw [ih]
    cases h : p a with
    | true =>
      rw [List.filter_cons_of_pos h, List.filter_cons_of_neg (by simp [h])]
      show _ = f a + _ + _
      omega
    | false =>
      rw [List.filter_cons_of_neg (by simp [h]), List.filter_cons_of_pos (by simp [h])]
      show _ = _ + (f a + _)
      omega
theorem sumZ_erase [DecidableEq α] {f : α → Int} {a : α} : ∀ {l : List α}, a ∈ l → sumZ f l = f a + sumZ f (l.erase a)
  | [], h => by cases h
  | b :: l, h => by
    by_cases e : b = a
    · subst e
      rw [List.erase_cons_head]
      rfl
    · rw [List.erase_cons_tail (by simpa using e)]
      have ha : a ∈ l := by
        rcases List.mem_cons.mp h with h | h
        · exact absurd h.symm e
        · exact h
      show f b + sumZ f l = f a + (f b + sumZ f (l.erase a))
      rw [sumZ_erase ha]
      omega
theorem sumZ_le_sub [DecidableEq α] {f : α → Int} : ∀ {m l : List α}, m.Nodup → (∀ a ∈ m, a ∈ l) → (∀ a ∈ l, 0 ≤ f a) → sumZ f m ≤ sumZ f l
  | [], l, _, _, h => sumZ_nn h
  | a :: m, l, nd, s, h => by
    have nd' := List.nodup_cons.mp nd
    have ha := s a List.mem_cons_self
    rw [sumZ_erase ha]
    have := sumZ_le_sub (m := m) (l := l.erase a) nd'.2 (fun b hb => (List.mem_erase_of_ne (a := b) (b := a) (fun e : b = a => nd'.1 (e ▸ hb))).mpr (s b (List.mem_cons_of_mem _ hb))) (fun b hb => h b (List.mem_of_mem_erase hb))
    show f a + sumZ f m ≤ _
    omega
theorem sumZ_ge_len {f : α → Int} : ∀ {m : List α}, (∀ a ∈ m, 1 ≤ f a) → (m.length : Int) ≤ sumZ f m
  | [], _ => Int.le_refl _
  | a :: m, h => by
    have h1 := h a List.mem_cons_self
    have h2 := sumZ_ge_len (m := m) fun b hb => h b (List.mem_cons_of_mem _ hb)
    show ((m.length + 1 : Nat) : Int) ≤ f a + sumZ f m
    omega
theorem sumZ_le_pos {f : α → Int} : ∀ {l : List α}, (∀ a ∈ l, f a ≤ 1) → sumZ f l ≤ ((l.filter fun a => decide (0 < f a)).length : Int)
  | [], _ => Int.le_refl _
  | a :: l, h => by
    have h1 := h a List.mem_cons_self
    have h2 := sumZ_le_pos (l := l) fun b hb => h b (List.mem_cons_of_mem _ hb)
    show f a + sumZ f l ≤ _
    by_cases e : 0 < f a
    · rw [List.filter_cons_of_pos (by simpa using e), List.length_cons]
      omega
    · rw [List.filter_cons_of_neg (by simpa using e)]
      omega
theorem sumZ_skew {d : α → α → Int} (h : ∀ a b, d a b = - d b a) (l : List α) : sumZ (fun a => sumZ (d a) l) l = 0 := by
  have h1 := sumZ_swap d l l
  have h2 : sumZ (fun b => sumZ (fun a => d a b) l) l = - sumZ (fun a => sumZ (d a) l) l := by
    rw [← sumZ_neg]
    refine sumZ_congr fun b _ => ?_
    rw [← sumZ_neg]
    exact sumZ_congr fun a _ => h a b
  omega
end
/-! ### the net's points -/
def ptsOf (ns : List Str) : List NK := pStart :: pGoal :: (ns.map inn ++ ns.map out)
theorem map_nodup {α β : Type} {f : α → β} (inj : ∀ a b, f a = f b → a = b) : ∀ {l : List α}, l.Nodup → (l.map f).Nodup
  | [], _ => List.nodup_nil
  | a :: l, h => by
    have h' := List.nodup_cons.mp h
    rw [List.map_cons, List.nodup_cons]
    refine ⟨fun hm => ?_, map_nodup inj h'.2⟩
    obtain ⟨b, hb, e⟩ := List.mem_map.mp hm
    exact h'.1 (inj b a e ▸ hb)
theorem pts_nodup {ns : List Str} (h : ns.Nodup) : (ptsOf ns).Nodup := by
  unfold ptsOf
  rw [List.nodup_cons, List.nodup_cons, List.nodup_append]
  refine ⟨?_, ?_, map_nodup (fun _ _ => inn_inj) h, map_nodup (fun _ _ => out_inj) h, ?_⟩
  · intro hm
    rcases List.mem_cons.mp hm with e | hm
    · exact start_goal e
    · rcases List.mem_append.mp hm with hm | hm
      · obtain ⟨x, _, e⟩ := List.mem_map.mp hm; exact inn_start e
      · obtain ⟨x, _, e⟩ := List.mem_map.mp hm; exact out_start e
  · intro hm
    rcases List.mem_append.mp hm with hm | hm
    · obtain ⟨x, _, e⟩ := List.mem_map.mp hm; exact inn_goal e
    · obtain ⟨x, _, e⟩ := List.mem_map.mp hm; exact out_goal e
  · intro a ha b hb e
    obtain ⟨x, _, rfl⟩ := List.mem_map.mp ha
    obtain ⟨y, _, rfl⟩ := List.mem_map.mp hb
    exact inn_out e
theorem inn_pts {ns : List Str} {x : Str} (h : x ∈ ns) : inn x ∈ ptsOf ns := List.mem_cons_of_mem _ (List.mem_cons_of_mem _ (List.mem_append_left _ (List.mem_map.mpr ⟨x, h, rfl⟩)))
theorem out_pts {ns : List Str} {x : Str} (h : x ∈ ns) : out x ∈ ptsOf ns := List.mem_cons_of_mem _ (List.mem_cons_of_mem _ (List.mem_append_right _ (List.mem_map.mpr ⟨x, h, rfl⟩)))
theorem start_pts {ns : List Str} : pStart ∈ ptsOf ns := List.mem_cons_self
theorem goal_pts {ns : List Str} : pGoal ∈ ptsOf ns := List.mem_cons_of_mem _ List.mem_cons_self
theorem pts_len (ns : List Str) : (ptsOf ns).length = 2 * ns.length + 2 := by
  unfold ptsOf
  simp
  omega
theorem EdgeOf.in_pts {c : Ch} {ns : List Str} {start goal x : Str} {p q : NK} (h : EdgeOf c ns start goal x p q) (hx : x ∈ ns) : p ∈ ptsOf ns ∧ q ∈ ptsOf ns := by
  cases h with
  | io => exact ⟨inn_pts hx, out_pts hx⟩
  | s _ _ => exact ⟨start_pts, inn_pts hx⟩
  | g _ _ => exact ⟨out_pts hx, goal_pts⟩
  | f _ _ _ hy => exact ⟨out_pts hx, inn_pts hy⟩
section
variable {c : Ch} {ns : List Str} {start goal : Str} {N : NetN}
/-- the flow at the start -/
theorem lf0_on {m : Nat} (h : NInv m (Edge c ns start goal) N) {p q : NK} (e : Edge c ns start goal p q) : flow N.lf p q = capP m p := flow_pos (h.on p q e)
theorem lf0_off {m : Nat} (h : NInv m (Edge c ns start goal) N) {p q : NK} (e : ¬ Edge c ns start goal p q) : flow N.lf p q = 0 := by
  by_cases e2 : Edge c ns start goal q p
  · exact flow_pos (h.back p q e2)
  · unfold flow
    rw [h.off (pr p q) fun a b ee => by
      obtain ⟨e3, e4⟩ := pr_inj ee
      rw [← e3, ← e4]
      exact ⟨e, e2⟩]
    rfl
theorem lf0_nn {m : Nat} (h : NInv m (Edge c ns start goal) N) (p q : NK) : 0 ≤ flow N.lf p q := by
  by_cases e : Edge c ns start goal p q
  · rw [lf0_on h e]
    cases p <;> first | (show 0 ≤ (m : Int) + 1; omega) | skip
    rename_i ks
    unfold capP
    split <;> first | (split <;> omega) | omega
  · rw [lf0_off h e]
    exact Int.le_refl _
theorem edge_inn {x : Str} {q : NK} (h : Edge c ns start goal (inn x) q) : x ∈ ns ∧ q = out x := by
  obtain ⟨y, hy, e⟩ := h
  generalize e1 : inn x = a at e
  cases e with
  | io => have := inn_inj e1; subst this; exact ⟨hy, rfl⟩
  | s _ _ => exact absurd e1 inn_start
  | g _ _ => exact absurd e1 inn_out
  | f _ _ _ _ => exact absurd e1 inn_out
theorem edge_out {x : Str} {q : NK} (h : Edge c ns start goal q (out x)) : x ∈ ns ∧ q = inn x := by
  obtain ⟨y, hy, e⟩ := h
  generalize e1 : out x = a at e
  cases e with
  | io => have := out_inj e1; subst this; exact ⟨hy, rfl⟩
  | s _ _ => exact absurd e1.symm inn_out
  | g _ _ => exact absurd e1 out_goal
  | f _ _ _ _ => exact absurd e1.symm inn_out
theorem edge_start {q : NK} (h : Edge c ns start goal q pStart) : False := by
  obtain ⟨y, hy, e⟩ := h
  generalize e1 : pStart = a at e
  cases e with
  | io => exact out_start e1.symm
  | s _ _ => exact inn_start e1.symm
  | g _ _ => exact start_goal e1
  | f _ _ _ _ => exact inn_start e1.symm
theorem edge_from_start {q : NK} (h : Edge c ns start goal pStart q) : ∃ x ∈ ns, q = inn x ∧ (c.road? x).map Rd.start = some start := by
  obtain ⟨y, hy, e⟩ := h
  generalize e1 : pStart = a at e
  cases e with
  | io => exact absurd e1.symm inn_start
  | s h1 h2 => exact ⟨y, hy, rfl, by rw [h1, ← h2]; rfl⟩
  | g _ _ => exact absurd e1.symm out_start
  | f _ _ _ _ => exact absurd e1.symm out_start
/-- what stands through all pushes -/
structure FlowInv (m : Nat) (c : Ch) (ns : List Str) (start goal : Str) (N : NetN) (lf : LF) : Prop where
  key : ∀ k, lf k = none ↔ N.lf k = none
  sym : ∀ p q, flow lf p q + flow lf q p = flow N.lf p q + flow N.lf q p
  nn : ∀ p q, 0 ≤ flow lf p q
  sum : ∀ v, v ≠ pStart → v ≠ pGoal → ex lf (ptsOf ns) v = ex N.lf (ptsOf ns) v
theorem FlowInv.pre {m : Nat} {lf : LF} (h : NInv m (Edge c ns start goal) N) (nd : ns.Nodup) (few : ns.length ≤ 8) (f : FlowInv m c ns start goal N lf) : PreP lf N.ah (ptsOf ns) := by
  have keyE : ∀ p q, Edge c ns start goal p q ∨ Edge c ns start goal q p → N.lf (pr p q) ≠ none := fun p q e => by
    rcases e with e | e
    · rw [h.on p q e]; exact fun z => nomatch z
    · rw [h.back p q e]; exact fun z => nomatch z
  refine ⟨pts_nodup nd, by rw [pts_len]; omega, start_pts, fun p q hq => ?_, fun p q hk => ?_⟩
  · have e := (h.adj p q).mp hq
    refine ⟨?_, ?_, fun z => keyE p q e ((f.key _).mp z)⟩
    · rcases e with ⟨x, hx, e⟩ | ⟨x, hx, e⟩
      · exact (e.in_pts hx).2
      · exact (e.in_pts hx).1
    · rcases e with ⟨x, hx, e⟩ | ⟨x, hx, e⟩
      · exact e.pts.2
      · exact e.pts.1
  · have hk' : N.lf (pr p q) ≠ none := fun z => hk ((f.key _).mpr z)
    have e : Edge c ns start goal p q ∨ Edge c ns start goal q p := by
      refine Classical.byContradiction fun no => hk' (h.off _ fun a b ee => ?_)
      obtain ⟨e3, e4⟩ := pr_inj ee
      rw [← e3, ← e4]
      exact ⟨fun z => no (.inl z), fun z => no (.inr z)⟩
    exact fun z => keyE q p e.symm ((f.key _).mp z)
theorem FlowInv.start0 {m : Nat} (h : NInv m (Edge c ns start goal) N) : FlowInv m c ns start goal N N.lf := ⟨fun _ => Iff.rfl, fun _ _ => rfl, lf0_nn h, fun _ _ _ => rfl⟩
theorem FlowInv.aug {m : Nat} {lf lf' : LF} (f : FlowInv m c ns start goal N lf) (a : Aug (ptsOf ns) lf lf') : FlowInv m c ns start goal N lf' ∧ ex lf' (ptsOf ns) pStart = ex lf (ptsOf ns) pStart - 1 := by
  refine ⟨⟨fun k => (a.key k).trans (f.key k), fun p q => (a.sym p q).trans (f.sym p q), a.pos f.nn, fun v h1 h2 => ?_⟩, ?_⟩
  · rw [a.sum v, ← f.sum v h1 h2]
    unfold one
    rw [if_neg h1, if_neg h2]
    omega
  · rw [a.sum]
    unfold one
    rw [if_neg start_goal, if_pos rfl]
    omega
end
end Wp
/-! The cut. -/
namespace Wp
open PySem PySem.Spec PyProof.Rows L2
section
variable {c : Ch} {ns : List Str} {start goal : Str} {N : NetN} {lf : LF}
theorem row1 (h : NInv ns.length (Edge c ns start goal) N) (nd : ns.Nodup) (f : FlowInv ns.length c ns start goal N lf) {x : Str} (hx : x ∈ ns) : sumZ (fun q => flow lf (inn x) q) (ptsOf ns) = 1 := by
  have e := f.sum (inn x) inn_start inn_goal
  unfold ex at e
  rw [e, sumZ_one (c := out x) (pts_nodup nd) (out_pts hx) fun q hq => lf0_off h fun z => hq (edge_inn z).2, lf0_on h ⟨x, hx, .io⟩, cap_inn]
theorem col1 (h : NInv ns.length (Edge c ns start goal) N) (nd : ns.Nodup) (f : FlowInv ns.length c ns start goal N lf) {x : Str} (hx : x ∈ ns) : sumZ (fun q => flow lf q (out x)) (ptsOf ns) = 1 := by
  have e := f.sum (out x) out_start out_goal
  unfold ex at e
  have e1 : sumZ (fun q => flow lf q (out x)) (ptsOf ns) = sumZ (fun q => flow N.lf q (out x)) (ptsOf ns) := by
    have z : sumZ (fun q => flow lf q (out x) + flow lf (out x) q) (ptsOf ns) = sumZ (fun q => flow N.lf q (out x) + flow N.lf (out x) q) (ptsOf ns) := sumZ_congr fun q _ => f.sym q (out x)
    rw [sumZ_add, sumZ_add] at z
    have z' : sumZ (fun q => flow lf q (out x)) (ptsOf ns) + sumZ (flow lf (out x)) (ptsOf ns) = sumZ (fun q => flow N.lf q (out x)) (ptsOf ns) + sumZ (flow N.lf (out x)) (ptsOf ns) := z
    have e' : sumZ (flow lf (out x)) (ptsOf ns) = sumZ (flow N.lf (out x)) (ptsOf ns) := e
    omega
  rw [e1, sumZ_one (c := inn x) (pts_nodup nd) (inn_pts hx) fun q hq => lf0_off h fun z => hq (edge_out z).2, lf0_on h ⟨x, hx, .io⟩, cap_inn]
/-! ### what is reached -/
structure Reach (ns : List Str) (N : NetN) (lf : LF) (rows : List NK) : Prop where
  hs : pStart ∈ rows
  hg : pGoal ∉ rows
  closed : ∀ p ∈ rows, ∀ q ∈ ahL N.ah p, 0 < flow lf p q → q ∈ rows
def cutOf (ns : List Str) (rows : List NK) : List Str := ns.filter fun x => decide (inn x ∈ rows) && !decide (out x ∈ rows)
theorem edge_reach (h : NInv ns.length (Edge c ns start goal) N) (R : Reach ns N lf rows) {p q : NK} (e : Edge c ns start goal p q) (hp : p ∈ rows) (pos : 0 < flow lf p q) : q ∈ rows := R.closed p hp q ((h.adj p q).mpr (.inl e)) pos
/-- the walk that starts with x and comes to the goal -/
inductive Trail (c : Ch) (ns : List Str) (goal : Str) : Str → List Str → Prop
  | last {x : Str} {r : Rd} : x ∈ ns → c.road? x = some r → r.fin = goal → Trail c ns goal x [x]
  | more {x y : Str} {r : Rd} {l : List Str} : x ∈ ns → c.road? x = some r → y ∈ c.folls x r → Trail c ns goal y l → Trail c ns goal x (x :: l)
theorem Trail.in_ns {x : Str} {l : List Str} (t : Trail c ns goal x l) : x ∈ ns := by
  cases t <;> assumption
theorem trail_cut (h : NInv ns.length (Edge c ns start goal) N) (nd : ns.Nodup) (f : FlowInv ns.length c ns start goal N lf) (R : Reach ns N lf rows) {x : Str} {l : List Str} (t : Trail c ns goal x l) : inn x ∈ rows → ∃ y ∈ l, y ∈ cutOf ns rows := by
  have colLe : ∀ {x : Str} {q : NK}, x ∈ ns → q ∈ ptsOf ns → flow lf q (out x) ≤ 1 := fun {x q} hx hq => by
    rw [← col1 h nd f hx]
    exact sumZ_ge (f := fun q => flow lf q (out x)) (fun a _ => f.nn _ _) hq
  induction t with
  | @last x r hx hr hf =>
    intro hin
    by_cases ho : out x ∈ rows
    · exfalso
      have e : Edge c ns start goal (out x) pGoal := ⟨x, hx, .g hr hf⟩
      have s := f.sym (out x) pGoal
      rw [lf0_on h e, lf0_off h (fun z => by obtain ⟨y, _, z⟩ := z; exact z.asym (.g (goal := goal) (ns := ns) (start := start) hr hf)), cap_out] at s
      have l1 := colLe hx (goal_pts (ns := ns))
      have hn : 0 < ns.length := List.length_pos_of_mem hx
      exact R.hg (edge_reach h R e ho (by omega))
    · exact ⟨x, List.mem_singleton.mpr rfl, List.mem_filter.mpr ⟨hx, by simp [hin, ho]⟩⟩
  | @more x y r l hx hr hy ht ih =>
    intro hin
    by_cases ho : out x ∈ rows
    · have hyn := ht.in_ns
      have hiy : inn y ∈ rows := by
        by_cases e : y = x
        · rw [e]; exact hin
        · have ee : EdgeOf c ns start goal x (out x) (inn y) := .f hr hy e hyn
          have s := f.sym (out x) (inn y)
          rw [lf0_on h ⟨x, hx, ee⟩, lf0_off h (fun z => by obtain ⟨y, _, z⟩ := z; exact z.asym ee), cap_out] at s
          have l1 := colLe hx (inn_pts hyn)
          have hn : 0 < ns.length := List.length_pos_of_mem hx
          exact edge_reach h R ⟨x, hx, ee⟩ ho (by omega)
      obtain ⟨z, hz, hc⟩ := ih hiy
      exact ⟨z, List.mem_cons_of_mem _ hz, hc⟩
    · exact ⟨x, List.mem_cons_self, List.mem_filter.mpr ⟨hx, by simp [hin, ho]⟩⟩
theorem rowLe (h : NInv ns.length (Edge c ns start goal) N) (nd : ns.Nodup) (f : FlowInv ns.length c ns start goal N lf) {x : Str} {q : NK} (hx : x ∈ ns) (hq : q ∈ ptsOf ns) : flow lf (inn x) q ≤ 1 := by
  rw [← row1 h nd f hx]
  exact sumZ_ge (f := fun q => flow lf (inn x) q) (fun a _ => f.nn _ _) hq
/-- every walk from the start meets the cut -/
theorem every_walk (h : NInv ns.length (Edge c ns start goal) N) (nd : ns.Nodup) (f : FlowInv ns.length c ns start goal N lf) (R : Reach ns N lf rows) {x : Str} {l : List Str} (t : Trail c ns goal x l) (hs : (c.road? x).map Rd.start = some start) : ∃ y ∈ l, y ∈ cutOf ns rows := by
  refine trail_cut h nd f R t ?_
  have hx := t.in_ns
  cases hr : c.road? x with
  | none => rw [hr] at hs; cases hs
  | some r =>
    rw [hr] at hs
    have e1 : r.start = start := Option.some.inj hs
    have ee : EdgeOf c ns start goal x pStart (inn x) := .s hr e1
    have s := f.sym pStart (inn x)
    rw [lf0_on h ⟨x, hx, ee⟩, lf0_off h (fun z => by obtain ⟨y, _, z⟩ := z; exact z.asym ee), cap_start] at s
    have l1 := rowLe h nd f hx (start_pts (ns := ns))
    have hn : 0 < ns.length := List.length_pos_of_mem hx
    exact edge_reach h R ⟨x, hx, ee⟩ R.hs (by omega)
/-! ### the cut is no larger than the flow -/
theorem cut_le (h : NInv ns.length (Edge c ns start goal) N) (nd : ns.Nodup) (f : FlowInv ns.length c ns start goal N lf) (R : Reach ns N lf rows) :
    (cutOf ns rows).length ≤ ((ns.filter fun x => decide ((c.road? x).map Rd.start = some start)).filter fun x => posF lf x).length := by
  have pnd := pts_nodup nd
  -- what goes out, counted at the start
  let d : NK → NK → Int := fun p q => flow N.lf p q - flow lf p q
  have skew : ∀ p q, d p q = - d q p := fun p q => by
    have := f.sym p q
    show flow N.lf p q - flow lf p q = - (flow N.lf q p - flow lf q p)
    omega
  have rowd : ∀ v, v ≠ pStart → v ≠ pGoal → sumZ (d v) (ptsOf ns) = 0 := fun v h1 h2 => by
    show sumZ (fun q => flow N.lf v q - flow lf v q) (ptsOf ns) = 0
    rw [sumZ_sub']
    have e : sumZ (flow lf v) (ptsOf ns) = sumZ (flow N.lf v) (ptsOf ns) := f.sum v h1 h2
    show sumZ (flow N.lf v) (ptsOf ns) - sumZ (flow lf v) (ptsOf ns) = 0
    omega
  let R' : List NK := (ptsOf ns).filter fun p => decide (p ∈ rows)
  have inR : ∀ {p : NK}, p ∈ R' ↔ p ∈ ptsOf ns ∧ p ∈ rows := fun {p} => by
    show p ∈ (ptsOf ns).filter (fun p => decide (p ∈ rows)) ↔ _
    rw [List.mem_filter, decide_eq_true_eq]
  have Rnd : R'.Nodup := List.Pairwise.filter _ pnd
  have sR : pStart ∈ R' := inR.mpr ⟨start_pts, R.hs⟩
  let k : Int := sumZ (d pStart) (ptsOf ns)
  have tot : sumZ (fun v => sumZ (d v) (ptsOf ns)) R' = k := by
    have z : sumZ (fun v => if v = pStart then k else 0) R' = k := by
      rw [sumZ_one (c := pStart) Rnd sR fun a ha => if_neg ha, if_pos rfl]
    rw [← z]
    refine sumZ_congr fun v hv => ?_
    by_cases e : v = pStart
    · rw [if_pos e, e]
    · rw [if_neg e]
      refine rowd v e fun e2 => R.hg ?_
      rw [← e2]
      exact (inR.mp hv).2
  have part : sumZ (fun v => sumZ (d v) (ptsOf ns)) R' = sumZ (fun v => sumZ (d v) ((ptsOf ns).filter fun p => !decide (p ∈ rows))) R' := by
    have e1 : sumZ (fun v => sumZ (d v) (ptsOf ns)) R' = sumZ (fun v => sumZ (d v) R' + sumZ (d v) ((ptsOf ns).filter fun p => !decide (p ∈ rows))) R' := sumZ_congr fun v _ => sumZ_filter _ _ _
    rw [e1, sumZ_add, sumZ_skew skew]
    omega
  have outnn : ∀ v ∈ R', ∀ q ∈ (ptsOf ns).filter (fun p => !decide (p ∈ rows)), flow lf v q = 0 := fun v hv q hq => by
    have hv' := (inR.mp hv).2
    have hq' : q ∉ rows := by
      have := (List.mem_filter.mp hq).2
      simpa using this
    have nn := f.nn v q
    by_cases e : q ∈ ahL N.ah v
    · refine Int.le_antisymm (Int.not_lt.mp fun pos => hq' (R.closed v hv' q e pos)) nn
    · have ne : ¬ (Edge c ns start goal v q ∨ Edge c ns start goal q v) := fun z => e ((h.adj v q).mpr z)
      have s := f.sym v q
      rw [lf0_off h fun z => ne (.inl z), lf0_off h fun z => ne (.inr z)] at s
      have := f.nn q v
      omega
  have low : ((cutOf ns rows).length : Int) ≤ k := by
    rw [← tot, part]
    have nnv : ∀ v ∈ R', 0 ≤ sumZ (d v) ((ptsOf ns).filter fun p => !decide (p ∈ rows)) := fun v hv => sumZ_nn fun q hq => by
      show 0 ≤ flow N.lf v q - flow lf v q
      rw [outnn v hv q hq]
      have := lf0_nn h v q
      omega
    have cnd : ((cutOf ns rows).map inn).Nodup := map_nodup (fun _ _ => inn_inj) (List.Pairwise.filter _ nd)
    have csub : ∀ p ∈ (cutOf ns rows).map inn, p ∈ R' := fun p hp => by
      obtain ⟨x, hx, rfl⟩ := List.mem_map.mp hp
      obtain ⟨h1, h2⟩ := List.mem_filter.mp hx
      simp only [Bool.and_eq_true, decide_eq_true_eq] at h2
      exact inR.mpr ⟨inn_pts h1, h2.1⟩
    refine Int.le_trans ?_ (sumZ_le_sub cnd csub nnv)
    have hl := sumZ_ge_len (f := fun v => sumZ (d v) ((ptsOf ns).filter fun p => !decide (p ∈ rows))) (m := (cutOf ns rows).map inn) fun p hp => by
      obtain ⟨x, hx, rfl⟩ := List.mem_map.mp hp
      have hxr := csub _ hp
      obtain ⟨h1, h2⟩ := List.mem_filter.mp hx
      simp only [Bool.and_eq_true, decide_eq_true_eq, Bool.not_eq_true', decide_eq_false_iff_not] at h2
      have ho : out x ∈ (ptsOf ns).filter fun p => !decide (p ∈ rows) := List.mem_filter.mpr ⟨out_pts h1, by simp [h2.2]⟩
      have g := sumZ_ge (f := d (inn x)) (fun q hq => by
        show 0 ≤ flow N.lf (inn x) q - flow lf (inn x) q
        rw [outnn _ hxr q hq]
        have := lf0_nn h (inn x) q
        omega) ho
      have e1 : d (inn x) (out x) = 1 := by
        show flow N.lf (inn x) (out x) - flow lf (inn x) (out x) = 1
        rw [outnn _ hxr _ ho, lf0_on h ⟨x, h1, .io⟩, cap_inn]
        rfl
      rw [e1] at g
      exact g
    rw [List.length_map] at hl
    exact hl
  have kin : k = sumZ (fun q => flow lf q pStart) (ptsOf ns) := sumZ_congr fun q _ => by
    show flow N.lf pStart q - flow lf pStart q = _
    have s := f.sym pStart q
    rw [lf0_off h (p := q) (q := pStart) edge_start] at s
    omega
  have only : ∀ q, 0 < flow lf q pStart → ∃ x ∈ ns, q = inn x ∧ (c.road? x).map Rd.start = some start := fun q pos => by
    refine Classical.byContradiction fun no => ?_
    have s := f.sym q pStart
    rw [lf0_off h (p := q) (q := pStart) edge_start, lf0_off h (p := pStart) (q := q) fun z => no (edge_from_start z)] at s
    have := f.nn pStart q
    omega
  have up : k ≤ (((ptsOf ns).filter fun q => decide (0 < flow lf q pStart)).length : Int) := by
    rw [kin]
    refine sumZ_le_pos fun q hq => ?_
    by_cases pos : 0 < flow lf q pStart
    · obtain ⟨x, hx, rfl, _⟩ := only q pos
      exact rowLe h nd f hx start_pts
    · omega
  have fin : ((ptsOf ns).filter fun q => decide (0 < flow lf q pStart)).length ≤ (((ns.filter fun x => decide ((c.road? x).map Rd.start = some start)).filter fun x => posF lf x).map inn).length := by
    refine nodup_len (List.Pairwise.filter _ pnd) fun q hq => ?_
    obtain ⟨h1, h2⟩ := List.mem_filter.mp hq
    rw [decide_eq_true_eq] at h2
    obtain ⟨x, hx, rfl, hs⟩ := only q h2
    exact List.mem_map.mpr ⟨x, List.mem_filter.mpr ⟨List.mem_filter.mpr ⟨hx, decide_eq_true hs⟩, decide_eq_true h2⟩, rfl⟩
  rw [List.length_map] at fin
  omega
/-! ### the chains end -/
/-- each in-point of the chain gets its flow from the one before -/
inductive Chn (lf : LF) (ns : List Str) : List Str → Str → Prop
  | one {x : Str} : x ∈ ns → 0 < flow lf (inn x) pStart → Chn lf ns [x] x
  | snoc {l : List Str} {x y : Str} : Chn lf ns l x → y ∈ ns → 0 < flow lf (inn y) (out x) → Chn lf ns (l ++ [y]) y
theorem Chn.last {l : List Str} {x : Str} (t : Chn lf ns l x) : ∃ m, l = m ++ [x] := by
  cases t with
  | one _ _ => exact ⟨[], rfl⟩
  | snoc _ _ _ => exact ⟨_, rfl⟩
theorem Chn.sub {l : List Str} {x : Str} (t : Chn lf ns l x) : ∀ y ∈ l, y ∈ ns := by
  induction t with
  | one hx _ => intro y hy; rw [List.mem_singleton.mp hy]; exact hx
  | snoc _ hy _ ih =>
    intro z hz
    rcases List.mem_append.mp hz with h | h
    · exact ih z h
    · rw [List.mem_singleton.mp h]; exact hy
/-- who stands in the chain got its flow from the start or from one before the last -/
theorem Chn.from_ {l : List Str} {x : Str} (t : Chn lf ns l x) : l.Nodup → ∀ y ∈ l, 0 < flow lf (inn y) pStart ∨ ∃ z ∈ l, z ≠ x ∧ 0 < flow lf (inn y) (out z) := by
  induction t with
  | one hx h =>
    intro _ y hy
    rw [List.mem_singleton.mp hy]
    exact .inl h
  | @snoc l x y ht hy hf ih =>
    intro nd z hz
    obtain ⟨nd1, _, nd2⟩ := List.nodup_append.mp nd
    have xl : x ∈ l := by
      obtain ⟨m, e⟩ := ht.last
      rw [e]
      exact List.mem_append_right _ (List.mem_singleton.mpr rfl)
    have ne : ∀ a ∈ l, a ≠ y := fun a ha => nd2 a ha y (List.mem_singleton.mpr rfl)
    rcases List.mem_append.mp hz with h | h
    · rcases ih nd1 z h with h1 | ⟨a, ha, _, h2⟩
      · exact .inl h1
      · exact .inr ⟨a, List.mem_append_left _ ha, ne a ha, h2⟩
    · rw [List.mem_singleton.mp h]
      exact .inr ⟨x, List.mem_append_left _ xl, ne x xl, hf⟩
theorem Chn.fresh (h : NInv ns.length (Edge c ns start goal) N) (nd : ns.Nodup) (f : FlowInv ns.length c ns start goal N lf) {l : List Str} {x y : Str} (t : Chn lf ns l x) (ln : l.Nodup) (hy : y ∈ ns) (hf : 0 < flow lf (inn y) (out x)) : y ∉ l := fun hm => by
  have xl : x ∈ l := by
    obtain ⟨m, e⟩ := t.last
    rw [e]
    exact List.mem_append_right _ (List.mem_singleton.mpr rfl)
  have xn := t.sub x xl
  have r := row1 h nd f hy
  rcases t.from_ ln y hm with h1 | ⟨z, hz, ne, h2⟩
  · have := sumZ_two (f := fun q => flow lf (inn y) q) (a := pStart) (b := out x) out_start.symm (fun a _ => f.nn _ _) (start_pts (ns := ns)) (out_pts xn)
    omega
  · have := sumZ_two (f := fun q => flow lf (inn y) q) (a := out z) (b := out x) (fun e => ne (out_inj e)) (fun a _ => f.nn _ _) (out_pts (t.sub z hz)) (out_pts xn)
    omega
theorem chain_ends (h : NInv ns.length (Edge c ns start goal) N) (nd : ns.Nodup) (f : FlowInv ns.length c ns start goal N lf) : ∀ (k : Nat) {l : List Str} {x : Str}, Chn lf ns l x → l.Nodup → ns.length ≤ l.length + k → Ends lf ns k x
  | k, l, x, t, ln, hk => by
    cases hb : behind lf ns x with
    | none => exact .stop (.inl hb)
    | some y =>
      have hy : y ∈ ns := List.mem_of_find?_eq_some hb
      have hf : 0 < flow lf (inn y) (out x) := by have := List.find?_some hb; simpa using this
      have fr := t.fresh h nd f ln hy hf
      have ln' : (l ++ [y]).Nodup := by
        rw [List.nodup_append]
        exact ⟨ln, by simp, fun a ha b hb e => fr (by rw [List.mem_singleton.mp hb] at e; exact e ▸ ha)⟩
      have t' : Chn lf ns (l ++ [y]) y := .snoc t hy hf
      have hl := nodup_len ln' t'.sub
      rw [List.length_append, List.length_singleton] at hl
      cases k with
      | zero => omega
      | succ k => exact .go hb (chain_ends h nd f k t' ln' (by rw [List.length_append, List.length_singleton]; omega))
theorem Ends.mono {j k : Nat} {x : Str} (h : Ends lf ns j x) (l : j ≤ k) : Ends lf ns k x := by
  induction h generalizing k with
  | stop h => exact .stop h
  | go h _ ih =>
    cases k with
    | zero => omega
    | succ k => exact .go h (ih (by omega))
theorem first_ends (h : NInv ns.length (Edge c ns start goal) N) (nd : ns.Nodup) (few : ns.length ≤ 8) (f : FlowInv ns.length c ns start goal N lf) {x : Str} (hx : x ∈ ns) (pos : 0 < flow lf (inn x) pStart) : Ends lf ns 50 x :=
  (chain_ends h nd f ns.length (.one hx pos) (by simp) (by simp)).mono (by omega)
/-- what is found lies within what is closed -/
theorem fnd_sub {ah : NK → Option (List NK)} {r1 r2 : List NK} {s2 : NK → Option (Option NK)} (hF : Fnd lf ah r2 s2 r2.length) (hs : pStart ∈ r1) (hc : ∀ p ∈ r1, ∀ q ∈ ahL ah p, 0 < flow lf p q → q ∈ r1) : ∀ (i : Nat) (p : NK), r2[i]? = some p → p ∈ r1 := by
  intro i
  induction i using Nat.strongRecOn with
  | _ i ih =>
    intro p hp
    have hm := (hF.mem p).mpr (List.mem_of_getElem? hp)
    cases e : s2 p with
    | none => rw [e] at hm; cases hm
    | some o =>
      cases o with
      | none => rw [hF.root p e]; exact hs
      | some q =>
        obtain ⟨a, b, ha, hb, hlt, hpos, hA⟩ := hF.par p q e
        have eb : b = i := (List.getElem?_inj (List.getElem?_eq_some_iff.mp hb).1 hF.nd).mp (hb.trans hp.symm)
        exact hc q (ih a (by omega) q ha) p hA hpos
end
end Wp
/-! apart. -/
namespace Wp
open PySem PySem.Spec PyProof.Rows L2
variable {P : Program} {w : World} {K : PySem.W.Frag} {mg : Str → Option Value} {base : Heap} {CM CN CA : Addr}
theorem inn_dat (K : PySem.W.Frag) (x : Str) : dT K [.str "in", .str x] = dat K (inn x).data := by rw [inn_data]
theorem out_dat (K : PySem.W.Frag) (x : Str) : dT K [.str "out", .str x] = dat K (out x).data := by rw [out_data]
/-- the cut of an answer -/
def CutOk (c : Ch) (kind start goal : Str) (cut : List Str) : Prop := ∀ x l, Trail c (c.usable kind) goal x l → (c.road? x).map Rd.start = some start → ∃ y ∈ l, y ∈ cut
def spApt (K : PySem.W.Frag) (CM CA : Addr) : Sp := SpQ (fun i : IVit => [chM K CM i.c, dS K i.kind, dS K i.start, dS K i.goal]) fun i m => ∃ rs cut, m = insM CA (apF K rs cut) ∧ cut.length ≤ rs.length ∧ rs.length ≤ 100 ∧ CutOk i.c i.kind i.start i.goal cut
abbrev s_apart : Stmt := top 14
abbrev n_apart : List Str := ["chart", "kind", "start", "goal", "net", "names", "firsts", "name", "found", "cut"]
abbrev p_apart : List Str := ["chart", "kind", "start", "goal"]
theorem sc_apart : FnScope n_apart p_apart (defScope s_apart) := ⟨rfl, rfl, rfl, by decide +kernel, rfl, by decide +kernel, by decide +kernel⟩
theorem ok_apart {f : Addr} {fd : FuncData} (Fn : L2.Fun K "apart" "apart" s_apart f fd) (c_check_ends : C8.Cal P w K mg base 2 "check_ends" (spEnds K CM) []) (mk_Net : C8.Mak P w K mg base 4 "Net" CN (spNetI K w CM CN) []) (c_Net_push : C8.Met P w K mg base 2 CN "push" (spPush K w CN) [])
    (c_usable : C8.Cal P w K mg base 3 "usable" (spUsable K CM) []) (c_Map_road : C8.Met P w K mg base 1 CM "road" (spRoad K CM) []) (c_Net_found_from_start : C8.Met P w K mg base 1 CN "found_from_start" (spFnd K w CN) []) (c_routes_of : C8.Cal P w K mg base 2 "routes_of" (spRoutes K w CN) [])
    (mk_Apart : C8.Mak P w K mg base 1 "Apart" CA (spApart K CA) []) : FnOk P w K mg base CX0 6 f fd p_apart (spApt K CM CA) := by
  refine fun_okQ Fn sc_apart (fun i => rfl) fun cdv A outer s H E hr => ?_
  have hu64 := hu64_of hr
  refine ⟨_, (pss_cons (ps_expr (C8.pe_c c_check_ends hr (by decide) (by rfl) (pa_cons (pv 0) (pa_cons (pv 1) (pa_cons (pv 2) (pa_cons (pv 3) pa_nil))))))
      (pss_cons (ps_set (i := 4) sc_apart.nd rfl (Or.inl rfl) (C8.pe_mk mk_Net hr (by decide) (by rfl) (pa_cons (pv 0) (pa_cons (pv 1) (pa_cons (pv 2) (pa_cons (pv 3) pa_nil))))))
      (pss_cons (ps_while PassesOwn.never (pt_val (C8.pe_mt0 c_Net_push hr (by decide) (pv 4))) (pss_one ps_pass))
      (pss_cons (ps_set (i := 5) sc_apart.nd rfl (Or.inl rfl) (C8.pe_c c_usable hr (by decide) (by rfl) (pa_cons (pv 0) (pa_cons (pv 1) pa_nil))))
      (pss_cons (ps_setLc (i := 6) rfl sc_apart.nd rfl rfl (sw_true rfl rfl rfl (by decide +kernel)) (pi_list (pv 5)) (blkOk_by (own := [("name", 7)]) (N := n_apart) (sc := defScope s_apart) (by decide +kernel)) (fun _ _ _ _ _ => (pg_name (i := 7) sc_apart.nd rfl (Or.inl rfl))) (fun _ _ _ _ _ => (pts_one (pt_cmpR op_eq (pe_ix (show IxR _ (rIxT K) from ix_tup) (C8.pe_mt c_Map_road hr (by decide) (pv 0) (pa_cons (pv 7) pa_nil)) pe_int (fun _ _ => rfl)) (pv 2) (nomark _)))) (fun _ _ _ _ _ => (pv 7)))
      (pss_cons (ps_set (i := 8) sc_apart.nd rfl (Or.inr rfl) (C8.pe_mt0 c_Net_found_from_start hr (by decide) (pv 4)))
      (pss_cons (ps_setLc (i := 9) rfl sc_apart.nd rfl rfl (sw_true rfl rfl rfl (by decide +kernel)) (pi_list (pv 5)) (blkOk_by (own := [("name", 7)]) (N := n_apart) (sc := defScope s_apart) (by decide +kernel)) (fun _ _ _ _ _ => (pg_name (i := 7) sc_apart.nd rfl (Or.inl rfl))) (fun _ _ _ _ _ => (pts_one (PW.pt (pw_and (pt_cmpR (show OpR _ _ (rNIn w K) from (op_nin hu64)) (pe_tup (pa_cons pe_str (pa_cons (pv 7) pa_nil))) (pv 8) (by with_unfolding_all rfl)) (pw_and1 (pt_cmpR (show OpR _ _ (rNNotIn w K) from (op_nnotin hu64)) (pe_tup (pa_cons pe_str (pa_cons (pv 7) pa_nil))) (pv 8) (by with_unfolding_all rfl))))))) (fun _ _ _ _ _ => (pv 7)))
      (pss_one (ps_ret (C8.pe_mk mk_Apart hr (by decide) (by rfl) (pa_cons (C8.pe_c c_routes_of hr (by decide) (by rfl) (pa_cons (pv 4) (pa_cons (pv 5) (pa_cons (pv 6) pa_nil)))) (pa_cons (pv 9) pa_nil)))))))))))), fun i => ?_⟩
  obtain ⟨⟨c, kind, start, goal, hk, hs, hg, ne⟩, ok⟩ := i
  have few : c.roads.length ≤ 8 := ok.few
  have ul := usable_len c kind
  have nd : (c.usable kind).Nodup := by
    unfold Ch.usable
    exact List.Pairwise.sublist (List.Sublist.map _ List.filter_sublist) ok.nd
  show ASt K _ [some (.d (chM K CM c)), some (.d (dS K kind)), some (.d (dS K start)), some (.d (dS K goal)), none, none, none, none, none, none] { nx := fun _ => _, rt := fun m => ∃ rs cut, m = insM CA (apF K rs cut) ∧ cut.length ≤ rs.length ∧ rs.length ≤ 100 ∧ CutOk c kind start goal cut }
  refine ast_seq (ast_drop (evp_callQ (eva_v4 rfl rfl rfl rfl ⟨⟨c, kind, start, goal, hk, hs, hg, ne⟩, rfl, fun m _ => ?_⟩)))
  refine ast_netQ (fun j o => ?_) (by simp) (eva_v4 rfl rfl rfl rfl ⟨⟨c, kind, start, goal, ok⟩, rfl, fun N hN => ?_⟩)
  · match j with
    | 0 => exact fun z => nomatch z
    | 1 => exact fun z => nomatch z
    | 2 => exact fun z => nomatch z
    | 3 => exact fun z => nomatch z
    | 4 => exact fun z => nomatch z
    | 5 => exact fun z => nomatch z
    | 6 => exact fun z => nomatch z
    | 7 => exact fun z => nomatch z
    | 8 => exact fun z => nomatch z
    | 9 => exact fun z => nomatch z
    | n + 10 => exact fun z => by simp at z
  obtain ⟨hN, hn⟩ := hN
  have hN : NInv (c.usable kind).length (Edge c (c.usable kind) start goal) N := hN
  have nsub : ∀ x ∈ c.usable kind, ∃ r, r ∈ c.roads ∧ r.name = x ∧ c.road? x = some r := fun x hx => usable_road ok hx
  have hu : ∀ (A : AS) (P : MP → Prop), A[0]? = some (some (.d (chM K CM c))) → A[1]? = some (some (.d (dS K kind))) → P (dL K (sds (c.usable kind))) → EvP K (tCall (spUsable K CM) [] C8.E0 (tCons (tVar 0) (tCons (tVar 1) tNil))) A P := fun A P h1 h2 q =>
    evp_callQ (eva_v2 h1 h2 ⟨⟨(c, kind), ok.nd, Nat.le_trans few (by decide)⟩, rfl, fun m em => em ▸ q⟩)
  unfold CutOk
  generalize c.usable kind = ns at ul nd hN nsub hu
  refine ⟨by omega, fun m l => FlowInv ns.length c ns start goal N l ∧ m = (ex l (ptsOf ns) pStart).toNat, _, ⟨FlowInv.start0 hN, rfl⟩, ?_⟩
  rintro m l ⟨hf, rfl⟩
  have pre := hf.pre hN nd (by omega)
  refine ⟨⟨_, pre⟩, fun l' b hb => ?_⟩
  cases b with
  | true =>
    obtain ⟨h1, h2⟩ := hf.aug (hb.1 rfl _ pre)
    have nn : 0 ≤ ex l' (ptsOf ns) pStart := sumZ_nn fun q _ => h1.nn _ _
    exact ⟨_, by omega, h1, rfl⟩
  | false =>
    obtain ⟨el, rows1, s1, hF1, hg1⟩ := hb.2 rfl
    subst el
    have hc1 : ∀ p ∈ rows1, ∀ q ∈ ahL N.ah p, 0 < flow l' p q → q ∈ rows1 := fun p hp q hq pos => by
      obtain ⟨i, hi⟩ := List.mem_iff_getElem?.mp hp
      exact hF1.done i (List.getElem?_eq_some_iff.mp hi).1 p hi q hq pos
    have hs1 : pStart ∈ rows1 := List.mem_of_getElem? hF1.hd
    have hn1 : N.n < 100000 := by omega
    show ASt K _ [some (.d (chM K CM c)), some (.d (dS K kind)), some (.d (dS K start)), some (.d (dS K goal)), some (.d (netP K w CN l' N.ah N.n)), none, none, none, none, none] _
    refine ast_seq (ast_asg (hu _ _ rfl rfl ?_))
    refine ast_seq (ast_asgN (evn_fm (l := ns) (enc := fun x => dS K x) (p := fun x => decide ((c.road? x).map Rd.start = some start)) (f := fun x => .str x) (by simp) (by omega) ?_ ?_ ?_ ?_))
    · exact evi_list (evp_var rfl ⟨_, rfl, by rw [List.map_map]; rfl⟩)
    · intro x hx
      obtain ⟨r, hr1, hr2, hr3⟩ := nsub x hx
      refine evt_test (evp_op (evp_op (evp_methQ (evp_var rfl ⟨ins_ok rfl, eva_v1 rfl ⟨⟨c, x, r, hr3⟩, rfl, fun m em => ?_⟩⟩))))
      subst em
      refine evp_int (rok_ixT (d := .str r.start) rfl (evp_var rfl (rok_eqS ⟨_, rfl, ?_⟩)))
      rw [hr3]
      simp
    · exact fun x hx _ => evp_var rfl rfl
    refine ast_freeze (i := 6) rfl ?_
    have fmem : ∀ x ∈ ns.filter (fun x => decide ((c.road? x).map Rd.start = some start)), x ∈ ns ∧ (c.road? x).map Rd.start = some start := fun x hx => ⟨(List.mem_filter.mp hx).1, by simpa using (List.mem_filter.mp hx).2⟩
    have fll : (ns.filter fun x => decide ((c.road? x).map Rd.start = some start)).length ≤ ns.length := List.length_filter_le _ _
    have cutLe := fun rows R => cut_le (rows := rows) hN nd hf R
    generalize (ns.filter fun x => decide ((c.road? x).map Rd.start = some start)) = fs at fmem fll cutLe
    show ASt K _ [some (.d (chM K CM c)), some (.d (dS K kind)), some (.d (dS K start)), some (.d (dS K goal)), some (.d (netP K w CN l' N.ah N.n)), some (.d (dL K (sds ns))), some (.d (dL K (sds fs))), none, none, none] _
    refine ast_seq (ast_asg (evp_methRQ (evp_var rfl ⟨ins_ok rfl, eva_nil ⟨⟨⟨l', N.ah, N.n, hn1⟩, ptsOf ns, pre.few, pre.hs, pre.adj⟩, rfl, fun o ho => ?_⟩⟩)))
    obtain ⟨rows2, s2, m2, rfl, hm2, hF2, hP2, hrl2⟩ := ho
    have hF2 : Fnd l' N.ah rows2 s2 rows2.length := hF2
    have R : Reach ns N l' rows2 := by
      refine ⟨List.mem_of_getElem? hF2.hd, fun hg2 => ?_, fun p hp q hq pos => ?_⟩
      · obtain ⟨i, hi⟩ := List.mem_iff_getElem?.mp hg2
        exact hg1 (fnd_sub hF2 hs1 hc1 i pGoal hi)
      · obtain ⟨i, hi⟩ := List.mem_iff_getElem?.mp hp
        exact hF2.done i (List.getElem?_eq_some_iff.mp hi).1 p hi q hq pos
    have hm' : m2 ≤ 100000 := Nat.le_trans hm2 (by decide)
    have hsome : ∀ k, (datF K (srcD s2) k).isSome = decide (k ∈ rows2) := fun k => by
      have e : (datF K (srcD s2) k).isSome = (s2 k).isSome := by unfold datF srcD; cases s2 k <;> rfl
      rw [e]
      by_cases h : k ∈ rows2
      · rw [(hF2.mem k).mpr h, decide_eq_true h]
      · rw [decide_eq_false h]
        cases e2 : (s2 k).isSome with
        | false => rfl
        | true => exact absurd ((hF2.mem k).mp e2) h
    show ASt K _ [some (.d (chM K CM c)), some (.d (dS K kind)), some (.d (dS K start)), some (.d (dS K goal)), some (.d (netP K w CN l' N.ah N.n)), some (.d (dL K (sds ns))), some (.d (dL K (sds fs))), none, some (.d (mdM K w (datF K (srcD s2)) m2)), none] _
    refine ast_seq (ast_asgN (evn_fm (l := ns) (enc := fun x => dS K x) (p := fun x => decide (inn x ∈ rows2) && !decide (out x ∈ rows2)) (f := fun x => .str x) (by simp) (by omega) ?_ ?_ ?_ ?_))
    · exact evi_list (evp_var rfl ⟨_, rfl, by rw [List.map_map]; rfl⟩)
    · intro x hx
      refine evt_and (evt_test (evp_op (evp_pt (evp_var rfl ⟨rfl, ?_⟩))))
      rw [inn_dat]
      refine evp_var rfl (rok_nin (f := datF K (srcD s2)) (k := inn x) hm' (okk_pt (.inn x)) ⟨_, rfl, ?_⟩)
      rw [hsome]
      cases h1 : decide (inn x ∈ rows2) with
      | false => rfl
      | true =>
        refine evt_test (evp_op (evp_pt (evp_var rfl ⟨rfl, ?_⟩)))
        rw [out_dat]
        refine evp_var rfl (rok_nnin (f := datF K (srcD s2)) (k := out x) hm' (okk_pt (.out x)) ⟨_, rfl, ?_⟩)
        rw [hsome]
        rfl
    · exact fun x hx _ => evp_var rfl rfl
    refine ast_freeze (i := 9) rfl ?_
    have ec : (ns.filter fun x => decide (inn x ∈ rows2) && !decide (out x ∈ rows2)) = cutOf ns rows2 := rfl
    rw [ec]
    refine ast_ret (evp_makeQ (eva_cons (evp_callQ (eva_v3 rfl rfl rfl ⟨⟨⟨l', N.ah, N.n, hn1⟩, ns, fs, fun x hx => ?_, fun x hx pos => ?_, by omega⟩, rfl, fun m hm => ?_⟩))))
    · obtain ⟨h1, h2⟩ := fmem x hx
      cases hr : c.road? x with
      | none => rw [hr] at h2; cases h2
      | some r =>
        rw [hr] at h2
        have e : EdgeOf c ns start goal x pStart (inn x) := .s hr (Option.some.inj h2)
        exact pre.sym _ _ (pre.adj pStart (inn x) ((hN.adj _ _).mpr (.inl ⟨x, h1, e⟩))).2.2
    · exact first_ends hN nd (by omega) hf (fmem x hx).1 pos
    · obtain ⟨rs, em, hrs⟩ := hm
      subst em
      have hrl : rs.length ≤ 100 := by
        rw [hrs]
        have := List.length_filter_le (fun x => posF l' x) fs
        show (fs.filter fun x => posF l' x).length ≤ 100
        omega
      refine eva_v1 rfl ⟨⟨(rs, cutOf ns rows2), hrl⟩, rfl, fun fs' hfs => ⟨rs, cutOf ns rows2, by rw [hfs], ?_, hrl, fun x l t hst => every_walk hN nd hf R t hst⟩⟩
      rw [hrs]
      exact cutLe rows2 R
end Wp
/-! sorted of a tuple of texts. -/
namespace Wp
open PySem PySem.Spec PyProof.Rows L2
theorem sorted_strT {prog : Program} {w : World} {A : Around} {E : Value → Shared → Prop} {s : Shared} {l : Addr} {vs : List Value} {ss : List Str} {Q : Value → Shared → Prop} (hl : IsTup s.heap l vs.toArray) (hS : StrsAre vs ss) (hz : vs.length ≤ sizeLine)
    (h : ∀ (h1 h' : Heap) (d : Addr) (out : Array Value) (ss' : List Str), StrsAre out.toList ss' → ss'.Perm ss → (∀ b o, s.heap.get? b = some o → h1.get? b = some o) → (∀ b o, h1.get? b = some o → h'.get? b = some o) → h1.objs.size ≤ d → (∃ n, h'.get? d = some (seqObj "list" out n)) → Q (.ref d) { s with heap := h' }) :
    wpAny (model prog w) A (call (.builtin "sorted") [.ref l]) Q E s := by
  obtain ⟨o, ho, hc, n, hd⟩ := hl
  refine Calls.call_function_entry kind_sorted plain_sorted entry_sorted (args_sorted1 _) ?_
  unfold Builtin.«sorted»
  refine wpAny_bind (m := checkCount "sorted" 1 1 _) (wpAny_pure ?_)
  refine wpAny_bind (wpAny_collect_seq l (.inr rfl) ho hc hd (fun h1 hk => ?_) (by rw [List.size_toArray]; exact hz))
  have e0 : vs.toArray.toList = vs := by simp
  rw [e0]
  refine wpAny_bind (wpAny_newList ?_ hz)
  have hoL : (h1.push (seqObj "list" vs.toArray 0)).get? h1.objs.size = some (seqObj "list" vs.toArray 0) := Heap.get?_push_size _ rfl
  refine wpAny_bind (wpAny_holding (wpAny_call_entry slot_list_sort ⟨_, hoL, rfl⟩ entry_list_sort (list_sort_treeKAny strKind_oneLt hoL hS.keysOf (fun v₁ v₂ rest e => keyKind_strs (by rw [← e]; exact hS)) hz fun st' hp hs => ⟨_, rfl, ?_⟩) (args_list_sort _)))
  obtain ⟨ss', k1, k2, k3⟩ := sorted_out_str hS hp hs
  refine wpAny_pure ⟨_, rfl, h h1 _ _ _ ss' k1 k2 hk (fun b o q1 => ?_) (Nat.le_refl _) ?_⟩
  · have q2 : (h1.push (seqObj "list" vs.toArray 0)).get? b = some o := Heap.get?_push_of_some _ q1
    rw [sortedHeap_old (Nat.ne_of_lt (Heap.lt_size q1)) (Heap.lt_size q2)]
    exact q2
  · exact sortedHeap_at hoL
def rSortedT (K : PySem.W.Frag) : List V → Hp → VK → Prop := fun vs H Q => ∃ (a : Addr) (xs : List Str), vs = [V.ref a] ∧ SqT K H a (xs.map V.str) ∧ xs.length ≤ 1000 ∧
  ∀ (ys : List Str) (p : Addr), ys.Perm xs → H p = none → Q (.ref p) (upd H p (.lst (ys.map V.str)))
theorem cr_sortedT {X : Cx} : CallR X (.builtin "sorted") (rSortedT X.K) := by
  intro pins s σ H vs us Q I r h
  obtain ⟨a, xs, rfl, hs, hl, q⟩ := h
  obtain ⟨its, rv, ht, hz⟩ := I.tuple hs
  rw [Vals.ref1 r]
  refine sorted_strT ht rv.strs (by rw [← rv.length]; exact hz) fun h1 h' d out ys k1 k2 kp1 kp2 hd hat => ?_
  obtain ⟨n, hat⟩ := hat
  have I1 : Inv X pins σ H { s with heap := h1 } := I.kept (t' := s.toks) kp1
  have hlen : (ys.map V.str).length ≤ sizeLine := by rw [List.length_map, k2.length_eq]; exact Nat.le_trans hl (by decide)
  exact ⟨.ref d, upd H d (.lst (ys.map V.str)), I1.laid (t' := s.toks) kp2 hd ⟨hlen, out.toList, n, vals_of_strs k1, hat⟩, rfl, q ys d k2 (I1.hok.fresh hd)⟩
section
variable {K : PySem.W.Frag} {P : MP → Prop}
theorem cok_sortT {xs : List Str} (hl : xs.length ≤ 1000) (q : ∀ ys : List Str, ys.Perm xs → P (dL K (sds ys))) : COk (rSortedT K) [dT K (sds xs)] P := fun F H us e p Q k => by
  obtain ⟨x, rfl, px⟩ := mps1 p
  obtain ⟨a, vs, rfl, ha, hd⟩ := p_tup px
  have hd : DqAll K F vs (xs.map .str) := hd
  rw [dq_strs hd] at ha
  refine ⟨a, xs, rfl, e.t ha, hl, fun ys p hp hn => ?_⟩
  have g := Grow.add (o := .lst (ys.map V.str)) e hn
  have all : ∀ (F : Hp) (zs : List Str), DqAll K F (zs.map V.str) (zs.map .str) := by
    intro F zs
    induction zs with
    | nil => exact .nil
    | cons z zs ih => exact .cons (Dq.str z) ih
  exact k _ (dL K (sds ys)) _ _ g (Dq.lst upd_same (all _ ys)) (q ys hp)
end
end Wp
/-! The map made: checked, checked_bar, __init__. -/
namespace Wp
open PySem PySem.Spec PyProof.Rows L2
variable {P : Program} {w : World} {K : PySem.W.Frag} {mg : Str → Option Value} {base : Heap} {CM CN CA : Addr}
theorem ast_req {te : TE} {A : AS} {E : AE} {X : XK} (h : EvP K te A fun m => m = dB K true ∧ E.nx A) : ASt K (tDrop (tCall (spReq K) [] X (tCons te tNil))) A E :=
  ast_drop (evp_callQ (eva_1 (h.mono fun m ⟨e, q⟩ => ⟨(), by rw [e], fun _ _ => q⟩)))
theorem evp_andT {ta tb : TE} {A : AS} {P : MP → Prop} (h : EvP K ta A fun m => m = dB K true) (k : EvP K tb A P) : EvP K (tAndV ta tb) A P := evp_andV (h.mono fun m e => ⟨true, e, k⟩)
theorem evp_chainT {A : AS} {ta tb tc : TE} {i j k : Int} {f g : Int → Int → Bool} {P : MP → Prop} (ha : EvP K ta A fun m => m = dI K i) (hb : EvP K tb A fun m => m = dI K j) (hc : EvP K tc A fun m => m = dI K k) (h1 : f i j = true) (h2 : g j k = true) (q : P (dB K true)) : EvP K (tChain (rI0 fun i j => .bl (f i j)) (rI0 fun i j => .bl (g i j)) ta tb tc) A P :=
  evp_chain (ha.mono fun m e => e ▸ (hb.mono fun n e2 => e2 ▸ rok_b ⟨_, rfl, by rw [h1]; exact hc.mono fun o e3 => e3 ▸ rok_b (by rw [h2]; exact q)⟩))
theorem diff_texts {xs : List Str} (nd : xs.Nodup) : ∀ (i j : Nat) (d e : PyData), (sds xs)[i]? = some d → (sds xs)[j]? = some e → j < i → PyData.eqv e d = false := by
  intro i j d e hi hj hlt
  unfold sds at hi hj
  rw [List.getElem?_map] at hi hj
  cases h1 : xs[i]? with
  | none => rw [h1] at hi; cases hi
  | some x =>
    cases h2 : xs[j]? with
    | none => rw [h2] at hj; cases hj
    | some y =>
      rw [h1] at hi
      rw [h2] at hj
      cases hi; cases hj
      rw [eqv_str]
      refine decide_eq_false fun e => ?_
      have e' : y = x := e
      subst e'
      have := (List.getElem?_inj (List.getElem?_eq_some_iff.mp h1).1 nd).mp (h1.trans h2.symm)
      omega
theorem diff_pairs {xs : List (Str × Str)} (nd : xs.Nodup) : ∀ (i j : Nat) (d e : PyData), (xs.map pairD)[i]? = some d → (xs.map pairD)[j]? = some e → j < i → PyData.eqv e d = false := by
  intro i j d e hi hj hlt
  rw [List.getElem?_map] at hi hj
  cases h1 : xs[i]? with
  | none => rw [h1] at hi; cases hi
  | some x =>
    cases h2 : xs[j]? with
    | none => rw [h2] at hj; cases hj
    | some y =>
      rw [h1] at hi
      rw [h2] at hj
      cases hi; cases hj
      rw [eqv_pair]
      refine decide_eq_false fun e => ?_
      have e' : y = x := e
      subst e'
      have := (List.getElem?_inj (List.getElem?_eq_some_iff.mp h1).1 nd).mp (h1.trans h2.symm)
      omega
/-- a call of are_different with texts -/
def idT (xs : List Str) (nd : xs.Nodup) (tok : ∀ x ∈ xs, TOk x) (hl : xs.length ≤ 1000) : IDiff := ⟨sds xs, fun d hd => by obtain ⟨x, hx, rfl⟩ := List.mem_map.mp hd; exact (Sh.str (tok x hx)).mono (by omega), diff_texts nd, by unfold sds; rw [List.length_map]; exact hl⟩
theorem noL_sds (xs : List Str) : noL (.tuple (sds xs)) = true := by
  simp only [noL]
  induction xs with
  | nil => simp [sds, noL.noLs]
  | cons x xs ih =>
    show noL.noLs (PyData.str x :: sds xs) = true
    simp only [noL.noLs, noL, Bool.true_and]
    exact ih
structure RdOk (ps ks : List Str) (day : Int) (r : Rd) : Prop where
  name : GoodName r.name
  start : r.start ∈ ps
  fin : r.fin ∈ ps
  min1 : 1 ≤ r.min
  min2 : r.min ≤ 1000
  knd : r.kinds.Nodup
  kin : ∀ k ∈ r.kinds, k ∈ ks
  kok : ∀ k ∈ r.kinds, TOk k
  kfew : r.kinds.length ≤ 1000
  hours : ∀ hs, r.hours = some hs → hs.length ≤ 4 ∧ Hours day (-1) hs
def fixK (ks : List Str) (r : Rd) : Rd := { r with kinds := ks.filter fun k => decide (k ∈ r.kinds) }
theorem eva_v5e {A : AS} {P : List MP → Prop} {te : TE} {i j k l o : Nat} {a b c d e : MP} (h1 : A[i]? = some (some (.d a))) (h2 : A[j]? = some (some (.d b))) (h3 : A[k]? = some (some (.d c))) (h4 : A[l]? = some (some (.d d))) (h5 : A[o]? = some (some (.d e))) (q : EvP K te A fun m => P [a, b, c, d, e, m]) :
    EvA K (tCons (tVar i) (tCons (tVar j) (tCons (tVar k) (tCons (tVar l) (tCons (tVar o) (tCons te tNil)))))) A P := eva_cons (evp_var h1 (eva_cons (evp_var h2 (eva_cons (evp_var h3 (eva_cons (evp_var h4 (eva_cons (evp_var h5 (eva_1 q))))))))))
/-! ### checked -/
abbrev s_Map_checked : Stmt := inClass (top 33) 1
abbrev n_Map_checked : List Str := ["self", "road", "name", "start", "end", "minutes", "kinds", "hours", "kind", "ordered", "pair"]
abbrev p_Map_checked : List Str := ["self", "road"]
theorem sc_Map_checked : FnScope n_Map_checked p_Map_checked (defScope s_Map_checked) := ⟨rfl, rfl, rfl, by decide +kernel, rfl, by decide +kernel, by decide +kernel⟩
def ch3 (K : PySem.W.Frag) (day : Int) (ps ks : List Str) : List (Str × MP) := [("day", dI K day), ("places", dT K (sds ps)), ("kinds", dT K (sds ks))]
structure ICk where
  day : Int
  ps : List Str
  ks : List Str
  r : Rd
  ok : RdOk ps ks day r
  few : ks.length ≤ 1000
def spCk (K : PySem.W.Frag) (CM : Addr) : Sp := SpQ (fun i : ICk => [insM CM (ch3 K i.day i.ps i.ks), dat K i.r.data]) fun i m => m = dat K (fixK i.ks i.r).data
theorem ok_checked {f : Addr} {fd : FuncData} (Fn : L2.Fun K "checked" "Map.checked" s_Map_checked f fd) (T : Txt K mg CM CN CA) (c_require : C8.Cal P w K mg base 1 "require" (spReq K) []) (c_is_name : C8.Cal P w K mg base 1 "is_name" (spName K) [])
    (c_are_different : C8.Cal P w K mg base 1 "are_different" (spDiff K) []) (c_are_hours : C8.Cal P w K mg base 1 "are_hours" (spHours K) []) : FnOk P w K mg base CX0 2 f fd p_Map_checked (spCk K CM) := by
  refine fun_okQ Fn sc_Map_checked (fun i => rfl) fun cdv A outer s H E hr => ?_
  refine ⟨_, (pss_cons (ps_expr (C8.pe_c c_require hr (by decide) (by rfl) (pa_cons (pe_cmpR op_eq (pe_callB call_lenA (by rfl) T.b_len PySem.boot_len (pa_cons (pv 1) pa_nil)) (C8.pe_gc (by rfl) T.g_ROAD_PARTS) (nomark _)) pa_nil)))
      (pss_cons (ps_asg (pv 1) (pg_tup rfl (pgs_cons (pg_name (i := 2) sc_Map_checked.nd rfl (Or.inl rfl)) (pgs_cons (pg_name (i := 3) sc_Map_checked.nd rfl (Or.inl rfl)) (pgs_cons (pg_name (i := 4) sc_Map_checked.nd rfl (Or.inl rfl)) (pgs_cons (pg_name (i := 5) sc_Map_checked.nd rfl (Or.inl rfl)) (pgs_cons (pg_name (i := 6) sc_Map_checked.nd rfl (Or.inr rfl)) (pgs_cons (pg_name (i := 7) sc_Map_checked.nd rfl (Or.inl rfl)) pgs_nil))))))))
      (pss_cons (ps_expr (C8.pe_c c_require hr (by decide) (by rfl) (pa_cons (pe_and (C8.pe_c c_is_name hr (by decide) (by rfl) (pa_cons (pv 2) pa_nil)) (pe_and (pe_cmpR op_in_seq (pv 3) (pe_fld (pv 0) rfl) (by with_unfolding_all rfl)) (pe_and (pe_cmpR op_in_seq (pv 4) (pe_fld (pv 0) rfl) (by with_unfolding_all rfl)) (pe_one (pe_chain op_le op_le pe_int (pv 5) (C8.pe_gc (by rfl) T.g_MOST_MINUTES)))))) pa_nil)))
      (pss_cons (ps_expr (C8.pe_c c_require hr (by decide) (by rfl) (pa_cons (pe_and (C8.pe_c c_are_different hr (by decide) (by rfl) (pa_cons (pv 6) pa_nil)) (pe_one (pe_callB (cr_all rfl) (by rfl) T.b_all PyProof.Rows.boot_all (pa_cons (pe_lc rfl sc_Map_checked.nd (pi_tup (pv 6)) (blkOk_by (own := [("kind", 8)]) (N := n_Map_checked) (sc := defScope s_Map_checked) (by decide +kernel)) (fun _ _ _ _ _ => (pg_name (i := 8) sc_Map_checked.nd rfl (Or.inl rfl))) (fun _ _ _ _ _ => pts_nil) (fun _ _ _ _ _ => (pe_cmpR (show OpR _ _ (rIn K false) from op_in_seq) (pv 8) (show PE _ _ (tFld K _ _) from (pe_fld (pv 0) rfl)) (by with_unfolding_all rfl)))) pa_nil)))) pa_nil)))
      (pss_cons (ps_set (i := 9) sc_Map_checked.nd rfl (Or.inl rfl) (pe_callTy call_tupA (by rfl) T.b_tuple PyProof.Rows.boot_tuple (pa_cons (pe_lc rfl sc_Map_checked.nd (pi_tup (pe_fld (pv 0) rfl)) (blkOk_by (own := [("kind", 8)]) (N := n_Map_checked) (sc := defScope s_Map_checked) (by decide +kernel)) (fun _ _ _ _ _ => (pg_name (i := 8) sc_Map_checked.nd rfl (Or.inl rfl))) (fun _ _ _ _ _ => (pts_one (pt_cmpR (show OpR _ _ (rIn K false) from op_in_seq) (pv 8) (pv 6) (by with_unfolding_all rfl)))) (fun _ _ _ _ _ => (pv 8))) pa_nil)))
      (pss_cons (ps_if (pt_cmpR op_isN1 (pv 7) pe_non (nomark _)) (pss_one (ps_ret (pe_tup (pa_cons (pv 2) (pa_cons (pv 3) (pa_cons (pv 4) (pa_cons (pv 5) (pa_cons (pv 9) (pa_cons pe_non pa_nil))))))))) pss_nil)
      (pss_cons (ps_expr (C8.pe_c c_require hr (by decide) (by rfl) (pa_cons (pe_and (pe_callB (cr_all rfl) (by rfl) T.b_all PyProof.Rows.boot_all (pa_cons (pe_lc rfl sc_Map_checked.nd (pi_tup (pv 7)) (blkOk_by (own := [("pair", 10)]) (N := n_Map_checked) (sc := defScope s_Map_checked) (by decide +kernel)) (fun _ _ _ _ _ => (pg_name (i := 10) sc_Map_checked.nd rfl (Or.inl rfl))) (fun _ _ _ _ _ => pts_nil) (fun _ _ _ _ _ => (pe_cmpR op_eq (pe_callB (show CallR _ _ (rLenA K) from call_lenA) (by rfl) T.b_len PySem.boot_len (pa_cons (pv 10) pa_nil)) pe_int (nomark _)))) pa_nil)) (pe_one (C8.pe_c c_are_hours hr (by decide) (by rfl) (pa_cons (pv 7) (pa_cons (pe_fld (pv 0) rfl) pa_nil))))) pa_nil)))
      (pss_one (ps_ret (pe_tup (pa_cons (pv 2) (pa_cons (pv 3) (pa_cons (pv 4) (pa_cons (pv 5) (pa_cons (pv 9) (pa_cons (pe_callTy call_tupA (by rfl) T.b_tuple PyProof.Rows.boot_tuple (pa_cons (pe_lc rfl sc_Map_checked.nd (pi_tup (pv 7)) (blkOk_by (own := [("pair", 10)]) (N := n_Map_checked) (sc := defScope s_Map_checked) (by decide +kernel)) (fun _ _ _ _ _ => (pg_name (i := 10) sc_Map_checked.nd rfl (Or.inl rfl))) (fun _ _ _ _ _ => pts_nil) (fun _ _ _ _ _ => (pe_callTy (show CallR _ _ (rTup K) from call_tupA) (by rfl) T.b_tuple PyProof.Rows.boot_tuple (pa_cons (pv 10) pa_nil)))) pa_nil)) pa_nil)))))))))))))))), fun i => ?_⟩
  obtain ⟨day, ps, ks, r, ok, few⟩ := i
  show ASt K _ [some (.d (insM CM (ch3 K day ps ks))), some (.d (dat K r.data)), none, none, none, none, none, none, none, none, none] _
  refine ast_seq (ast_req (evp_op (evp_cb (eva_v1 rfl (cok_lenT (ds := [.str r.name, .str r.start, .str r.fin, .int r.min, .tuple (sds r.kinds), hoursD r.hours]) (evp_int (rok_eqI ⟨rfl, ?_⟩)))))))
  refine ast_seq (ast_asgG (evp_var rfl (as_tup (ds := [.str r.name, .str r.start, .str r.fin, .int r.min, .tuple (sds r.kinds), hoursD r.hours]) rfl rfl (asg_cons (asg_cons (asg_cons (asg_cons (asg_cons (asg_cons (asg_nil ?_))))))))))
  show ASt K _ [some (.d (insM CM (ch3 K day ps ks))), some (.d (dat K r.data)), some (.d (dS K r.name)), some (.d (dS K r.start)), some (.d (dS K r.fin)), some (.d (dI K r.min)), some (.d (dT K (sds r.kinds))), some (.d (dat K (hoursD r.hours))), none, none, none] _
  have fldP : ∀ {A : AS} {P : MP → Prop}, A[0]? = some (some (.d (insM CM (ch3 K day ps ks)))) → P (dT K (sds ps)) → EvP K (tFld K (tVar 0) "places") A P := fun {A P} h q => evp_fld (evp_var h ⟨CM, _, _, rfl, T.clM, T.m_places, rfl, q⟩)
  have fldK : ∀ {A : AS} {P : MP → Prop}, A[0]? = some (some (.d (insM CM (ch3 K day ps ks)))) → P (dT K (sds ks)) → EvP K (tFld K (tVar 0) "kinds") A P := fun {A P} h q => evp_fld (evp_var h ⟨CM, _, _, rfl, T.clM, T.m_kinds, rfl, q⟩)
  have fldD : ∀ {A : AS} {P : MP → Prop}, A[0]? = some (some (.d (insM CM (ch3 K day ps ks)))) → P (dI K day) → EvP K (tFld K (tVar 0) "day") A P := fun {A P} h q => evp_fld (evp_var h ⟨CM, _, _, rfl, T.clM, T.m_day, rfl, q⟩)
  refine ast_seq (ast_req (evp_andT (evp_callQ (eva_v1 rfl ⟨⟨r.name, ok.name⟩, rfl, fun m e => e⟩)) (evp_andT (evp_op (evp_var rfl (fldP rfl (rok_inT ?_)))) (evp_andT (evp_op (evp_var rfl (fldP rfl (rok_inT ?_)))) (evp_chainT (i := 1) (j := r.min) (k := 1000) (evp_int rfl) (evp_var rfl rfl) (evp_int rfl) (decide_eq_true ok.min1) (decide_eq_true ok.min2) ⟨rfl, ?_⟩)))))
  · rw [decide_eq_true ok.start]; rfl
  · rw [decide_eq_true ok.fin]; rfl
  refine ast_seq (ast_req (evp_andT (evp_callQ (eva_v1 rfl ⟨idT r.kinds ok.knd ok.kok ok.kfew, rfl, fun m e => e⟩)) (evp_cb (eva_1 (evn_p (evn_fm (l := r.kinds) (enc := fun k => dS K k) (p := fun _ => true) (f := fun _ => .bool true) (by simp) (by have := ok.kfew; omega) ?_ ?_ ?_ ?_))))))
  · exact evi_tup (evp_var rfl ⟨_, rfl, by rw [List.map_map]; rfl⟩)
  · exact fun a ha => evt_yes rfl
  · exact fun a ha _ => evp_op (evp_var rfl (fldK rfl (rok_inT (by rw [decide_eq_true (ok.kin a ha)]))))
  rw [List.filter_eq_self.mpr (fun _ _ => rfl)]
  have e : r.kinds.map (fun _ => PyData.bool true) = (r.kinds.map fun _ => true).map PyData.bool := by rw [List.map_map]; rfl
  rw [e]
  refine cok_all ⟨by rw [all_yes _ _ fun _ _ => rfl]; rfl, ?_⟩
  -- ordered
  refine ast_seq (ast_asg (evp_cb (eva_1 (evn_p (evn_fm (l := ks) (enc := fun k => dS K k) (p := fun k => decide (k ∈ r.kinds)) (f := fun k => .str k) (by simp) (by omega) ?_ ?_ ?_ ?_)))))
  · exact evi_tup (fldK rfl ⟨_, rfl, by rw [List.map_map]; rfl⟩)
  · exact fun a ha => evt_test (evp_op (evp_var rfl (evp_var rfl (rok_inT ⟨_, rfl, rfl⟩))))
  · exact fun a ha _ => evp_var rfl rfl
  refine cok_tupL ?_
  show ASt K _ [some (.d (insM CM (ch3 K day ps ks))), some (.d (dat K r.data)), some (.d (dS K r.name)), some (.d (dS K r.start)), some (.d (dS K r.fin)), some (.d (dI K r.min)), some (.d (dT K (sds r.kinds))), some (.d (dat K (hoursD r.hours))), none, some (.d (dT K (sds (fixK ks r).kinds))), none] _
  refine ast_seq (ast_if (evt_test (evp_op (evp_var rfl (evp_non (rok_isN rfl ⟨_, rfl, ?_⟩))))))
  cases hh : r.hours with
  | none =>
    refine ast_ret (evp_tup (eva_v5e rfl rfl rfl rfl rfl (evp_non ?_)))
    refine ⟨[.str r.name, .str r.start, .str r.fin, .int r.min, .tuple (sds (fixK ks r).kinds), .none], rfl, by simp, ?_⟩
    show _ = dat K (fixK ks r).data
    have e1 : (fixK ks r).hours = none := hh
    unfold Rd.data
    rw [e1]
    rfl
  | some hs =>
    obtain ⟨h4, hH⟩ := ok.hours hs hh
    refine ast_next ?_
    refine ast_seq (ast_req (evp_andT (evp_cb (eva_1 (evn_p (evn_fm (l := hs) (enc := fun p => dat K (hpD p)) (p := fun _ => true) (f := fun _ => .bool true) (by simp) (by omega) ?_ ?_ ?_ ?_)))) (evp_callQ (eva_cons (evp_var rfl (eva_1 (fldD rfl ⟨⟨(hs, day), h4, hH⟩, ?_, fun m e => ⟨e, ?_⟩⟩)))))))
    · exact evi_tup (evp_var rfl ⟨hs.map hpD, rfl, by rw [List.map_map]; rfl⟩)
    · exact fun a ha => evt_yes rfl
    · exact fun a ha _ => evp_op (evp_cb (eva_v1 rfl (cok_lenT (ds := [.int a.1, .int a.2]) (evp_int (rok_eqI rfl)))))
    · rw [List.filter_eq_self.mpr (fun _ _ => rfl)]
      have e : hs.map (fun _ => PyData.bool true) = (hs.map fun _ => true).map PyData.bool := by rw [List.map_map]; rfl
      rw [e]
      refine cok_all ?_
      rw [all_yes _ _ fun _ _ => rfl]
      rfl
    · rfl
    · refine ast_ret (evp_tup (eva_v5e rfl rfl rfl rfl rfl (evp_cb (eva_1 (evn_p (evn_fm (l := hs) (enc := fun p => dat K (hpD p)) (p := fun _ => true) (f := fun p => hpD p) (by simp) (by omega) ?_ ?_ ?_ ?_))))))
      · exact evi_tup (evp_var rfl ⟨hs.map hpD, rfl, by rw [List.map_map]; rfl⟩)
      · exact fun a ha => evt_yes rfl
      · exact fun a ha _ => evp_cb (eva_v1 rfl (cok_tupT (ds := [.int a.1, .int a.2]) rfl))
      · rw [List.filter_eq_self.mpr (fun _ _ => rfl)]
        refine cok_tupL ⟨[.str r.name, .str r.start, .str r.fin, .int r.min, .tuple (sds (fixK ks r).kinds), .tuple (hs.map hpD)], rfl, by simp, ?_⟩
        show _ = dat K (fixK ks r).data
        have e1 : (fixK ks r).hours = some hs := hh
        unfold Rd.data
        rw [e1]
        rfl
end Wp
/-! The map half made. -/
namespace Wp
open PySem PySem.Spec PyProof.Rows L2
variable {P : Program} {w : World} {K : PySem.W.Frag} {mg : Str → Option Value} {base : Heap} {CM CN CA : Addr}
def chF4 (K : PySem.W.Frag) (c : Ch) : List (Str × MP) := [("day", dI K c.day), ("places", dT K (sds c.places)), ("kinds", dT K (sds c.kinds)), ("roads", dT K (c.roads.map Rd.data))]
def chM4 (K : PySem.W.Frag) (CM : Addr) (c : Ch) : MP := insM CM (chF4 K c)
/-! ### road -/
def spRoad4 (K : PySem.W.Frag) (CM : Addr) : Sp := SpQ (fun i : IRoad => [chM4 K CM i.c, dS K i.x]) fun i m => m = dat K i.r.data
theorem ok_road4 {f : Addr} {fd : FuncData} (Fn : L2.Fun K "road" "Map.road" s_Map_road f fd) (T : Txt K mg CM CN CA) : FnOk P w K mg base CX0 1 f fd p_Map_road (spRoad4 K CM) := by
  refine fun_okQ Fn sc_Map_road (fun i => rfl) fun cdv A outer s H E hr => ?_
  refine ⟨_, (pss_cons (ps_for PassesOwn.never rfl (pi_tup (pe_fld (pv 0) rfl)) (pg_name (i := 2) sc_Map_road.nd rfl (Or.inl rfl)) (pss_one (ps_if (pt_cmpR op_eq (pe_ix ix_tup (pv 2) pe_int (fun _ _ => rfl)) (pv 1) (nomark _)) (pss_one (ps_ret (pv 2))) pss_nil)))
      (pss_one ps_never)), fun i => ?_⟩
  obtain ⟨c, x, r, hx⟩ := i
  show ASt K _ [some (.d (chM4 K CM c)), some (.d (dS K x)), none] _
  refine ast_seq (ast_for (evi_tup (evp_fld (evp_var rfl ⟨CM, chF4 K c, _, rfl, T.clM, T.m_roads, rfl, _, rfl, ?_⟩))))
  refine ⟨fun i A' => ∃ y, A' = [some (.d (chM4 K CM c)), some (.d (dS K x)), y] ∧ ∀ j, j < i → ∀ q, c.roads[j]? = some q → q.name ≠ x, ⟨none, rfl, fun j h => absurd h (Nat.not_lt_zero _)⟩, ?_, ?_⟩
  · rintro i m A' hm ⟨y, rfl, hn⟩
    rw [List.map_map, List.getElem?_map] at hm
    cases hq : c.roads[i]? with
    | none => rw [hq] at hm; cases hm
    | some q =>
      rw [hq] at hm
      cases hm
      refine as_name (ast_if (evt_test (evp_op (evp_op (evp_var rfl (evp_int (rok_ixT (d := .str q.name) rfl (evp_var rfl (rok_eqS ⟨_, rfl, ?_⟩)))))))))
      by_cases e : q.name = x
      · rw [decide_eq_true e]
        refine ast_ret (evp_var rfl ?_)
        have z := first_at hq e hn
        have z2 : c.road? x = some q := z
        rw [hx] at z2
        cases z2
        rfl
      · rw [decide_eq_false e]
        refine ast_next ⟨_, rfl, fun j hj q' hq' => ?_⟩
        rcases Nat.lt_succ_iff_lt_or_eq.mp hj with h | h
        · exact hn j h q' hq'
        · subst h
          rw [hq] at hq'
          cases hq'
          exact e
  · rintro A' ⟨y, rfl, hn⟩
    refine ast_no ?_
    obtain ⟨hr, e⟩ := road_in hx
    obtain ⟨j, hj⟩ := List.mem_iff_getElem?.mp hr
    refine hn j ?_ r hj e
    rw [List.length_map, List.length_map]
    exact (List.getElem?_eq_some_iff.mp hj).1
/-! ### road_names -/
def spNames4 (K : PySem.W.Frag) (CM : Addr) : Sp := SpQ (fun c : { c : Ch // c.roads.length ≤ 100 } => [chM4 K CM c.1]) fun c m => m = dT K (sds c.1.names)
theorem ok_names4 {f : Addr} {fd : FuncData} (Fn : L2.Fun K "road_names" "Map.road_names" s_Map_road_names f fd) (T : Txt K mg CM CN CA) : FnOk P w K mg base CX0 1 f fd p_Map_road_names (spNames4 K CM) := by
  refine fun_okQ Fn sc_Map_road_names (fun i => rfl) fun cdv A outer s H E hr => ?_
  refine ⟨_, (pss_one (ps_ret (pe_callTy call_tupA (by rfl) T.b_tuple PyProof.Rows.boot_tuple (pa_cons (pe_lc rfl sc_Map_road_names.nd (pi_tup (pe_fld (pv 0) rfl)) (blkOk_by (own := [("road", 1)]) (N := n_Map_road_names) (sc := defScope s_Map_road_names) (by decide +kernel)) (fun _ _ _ _ _ => (pg_name (i := 1) sc_Map_road_names.nd rfl (Or.inl rfl))) (fun _ _ _ _ _ => pts_nil) (fun _ _ _ _ _ => (pe_ix (show IxR _ (rIxT K) from ix_tup) (pv 1) pe_int (fun _ _ => rfl)))) pa_nil)))), fun i => ?_⟩
  obtain ⟨c, hc⟩ := i
  show ASt K _ [some (.d (chM4 K CM c)), none] _
  refine ast_ret (evp_cb (eva_cons (evn_p (evn_fm (l := c.roads) (enc := fun r => dat K r.data) (p := fun _ => true) (f := fun r => .str r.name) (by simp) (by omega) ?_ ?_ ?_ ?_))))
  · exact evi_tup (evp_fld (evp_var rfl ⟨CM, chF4 K c, _, rfl, T.clM, T.m_roads, rfl, _, rfl, by rw [List.map_map]; rfl⟩))
  · exact fun a ha => evt_yes rfl
  · exact fun a ha _ => evp_op (evp_var rfl (evp_int (rok_ixT (d := .str a.name) rfl rfl)))
  · refine eva_nil (cok_tupL ?_)
    rw [List.filter_eq_self.mpr (fun _ _ => rfl)]
    unfold Ch.names
    show _ = dT K (List.map _ _)
    rw [List.map_map]
    rfl
/-! ### checked_bar -/
abbrev s_Map_checked_bar : Stmt := inClass (top 33) 2
abbrev n_Map_checked_bar : List Str := ["self", "bar"]
abbrev p_Map_checked_bar : List Str := ["self", "bar"]
theorem sc_Map_checked_bar : FnScope n_Map_checked_bar p_Map_checked_bar (defScope s_Map_checked_bar) := ⟨rfl, rfl, rfl, by decide +kernel, rfl, by decide +kernel, by decide +kernel⟩
structure ICb where
  c : Ch
  x : Str
  y : Str
  r : Rd
  q : Rd
  hx : c.road? x = some r
  hy : c.road? y = some q
  e : r.fin = q.start
  few : c.roads.length ≤ 100
def spCb (K : PySem.W.Frag) (CM : Addr) : Sp := SpQ (fun i : ICb => [chM4 K CM i.c, dat K (pairD (i.x, i.y))]) fun i m => m = dat K (pairD (i.x, i.y))
theorem mem_names {c : Ch} {x : Str} {r : Rd} (h : c.road? x = some r) : x ∈ c.names := by
  obtain ⟨a, b⟩ := road_in h
  subst b
  exact List.mem_map_of_mem a
theorem ok_checked_bar {f : Addr} {fd : FuncData} (Fn : L2.Fun K "checked_bar" "Map.checked_bar" s_Map_checked_bar f fd) (T : Txt K mg CM CN CA) (c_require : C8.Cal P w K mg base 1 "require" (spReq K) []) (c_Map_road : C8.Met P w K mg base 1 CM "road" (spRoad4 K CM) []) (p_road_names : PropC P w K mg base 1 CM "road_names" (spNames4 K CM)) :
    FnOk P w K mg base CX0 3 f fd p_Map_checked_bar (spCb K CM) := by
  refine fun_okQ Fn sc_Map_checked_bar (fun i => rfl) fun cdv A outer s H E hr => ?_
  refine ⟨_, (pss_cons (ps_expr (C8.pe_c c_require hr (by decide) (by rfl) (pa_cons (pe_and (pe_cmpR op_eq (pe_callB call_lenA (by rfl) T.b_len PySem.boot_len (pa_cons (pv 1) pa_nil)) pe_int (nomark _)) (pe_and (pe_cmpR op_in_seq (pe_ix ix_tup (pv 1) pe_int (fun _ _ => rfl)) (p_road_names.pe hr (by decide) (pv 0) rfl) (by with_unfolding_all rfl)) (pe_one (pe_cmpR op_in_seq (pe_ix ix_tup (pv 1) pe_int (fun _ _ => rfl)) (p_road_names.pe hr (by decide) (pv 0) rfl) (by with_unfolding_all rfl))))) pa_nil)))
      (pss_cons (ps_expr (C8.pe_c c_require hr (by decide) (by rfl) (pa_cons (pe_cmpR op_eq (pe_ix ix_tup (C8.pe_mt c_Map_road hr (by decide) (pv 0) (pa_cons (pe_ix ix_tup (pv 1) pe_int (fun _ _ => rfl)) pa_nil)) pe_int (fun _ _ => rfl)) (pe_ix ix_tup (C8.pe_mt c_Map_road hr (by decide) (pv 0) (pa_cons (pe_ix ix_tup (pv 1) pe_int (fun _ _ => rfl)) pa_nil)) pe_int (fun _ _ => rfl)) (nomark _)) pa_nil)))
      (pss_one (ps_ret (pe_callTy call_tupA (by rfl) T.b_tuple PyProof.Rows.boot_tuple (pa_cons (pv 1) pa_nil)))))), fun i => ?_⟩
  obtain ⟨c, x, y, r, q, hx, hy, e, few⟩ := i
  show ASt K _ [some (.d (chM4 K CM c)), some (.d (dT K [.str x, .str y]))] _
  have hn : ∀ {A : AS} {P : MP → Prop}, A[0]? = some (some (.d (chM4 K CM c))) → P (dT K (sds c.names)) → EvP K (tProp CM (spNames4 K CM) [] C8.E0 (tVar 0)) A P := fun {A P} h q => evp_propQ (name := "road_names") (evp_var h ⟨ins_ok rfl, ⟨c, few⟩, rfl, fun m em => em ▸ q⟩)
  refine ast_seq (ast_req (evp_andT (evp_op (evp_cb (eva_v1 rfl (cok_lenT (ds := [.str x, .str y]) (evp_int (rok_eqI rfl)))))) (evp_andT (evp_op (evp_op (evp_var rfl (evp_int (rok_ixT (d := .str x) rfl (hn rfl (rok_inT ?_))))))) (evp_op (evp_op (evp_var rfl (evp_int (rok_ixT (d := .str y) rfl (hn rfl (rok_inT ⟨?_, ?_⟩))))))))))
  · rw [decide_eq_true (mem_names hx)]; rfl
  · rw [decide_eq_true (mem_names hy)]; rfl
  refine ast_seq (ast_req (evp_op (evp_op (evp_methQ (evp_var rfl ⟨ins_ok rfl, eva_1 (evp_op (evp_var rfl (evp_int (rok_ixT (d := .str x) rfl ⟨⟨c, x, r, hx⟩, rfl, fun m em => ?_⟩))))⟩)))))
  subst em
  refine evp_int (rok_ixT (d := .str r.fin) rfl (evp_op (evp_methQ (evp_var rfl ⟨ins_ok rfl, eva_1 (evp_op (evp_var rfl (evp_int (rok_ixT (d := .str y) rfl ⟨⟨c, y, q, hy⟩, rfl, fun m em => ?_⟩))))⟩))))
  subst em
  refine evp_int (rok_ixT (d := .str q.start) rfl (rok_eqS ⟨?_, ?_⟩))
  · rw [decide_eq_true e]; rfl
  · exact ast_ret (evp_cb (eva_v1 rfl (cok_tupT (ds := [.str x, .str y]) rfl)))
end Wp
/-! Map's __init__. -/
namespace Wp
open PySem PySem.Spec PyProof.Rows L2
variable {P : Program} {w : World} {K : PySem.W.Frag} {mg : Str → Option Value} {base : Heap} {CM CN CA : Addr}
theorem perm_map_inv {α β : Type} {f : α → β} {es ds : List β} (h : es.Perm ds) : ∀ l : List α, ds = l.map f → ∃ l' : List α, List.Perm l' l ∧ es = l'.map f := by
  induction h with
  | nil => exact fun l e => ⟨l, .refl l, e⟩
  | cons x h ih =>
    intro l e
    cases l with
    | nil => cases e
    | cons a l =>
      rw [List.map_cons] at e
      injection e with e1 e2
      obtain ⟨l', p, e'⟩ := ih l e2
      exact ⟨a :: l', p.cons a, by rw [List.map_cons, ← e1, e']⟩
  | swap x y l0 =>
    intro l e
    match l with
    | [] => cases e
    | [a] => cases e
    | a :: b :: l =>
      rw [List.map_cons, List.map_cons] at e
      injection e with e1 e2
      injection e2 with e2 e3
      exact ⟨b :: a :: l, .swap a b l, by rw [List.map_cons, List.map_cons, e1, e2, e3]⟩
  | trans h1 h2 ih1 ih2 =>
    intro l e
    obtain ⟨l2, p2, e2⟩ := ih2 l e
    obtain ⟨l1, p1, e1⟩ := ih1 l2 e2
    exact ⟨l1, p1.trans p2, e1⟩
theorem noL_pairs (xs : List (Str × Str)) : noL (.tuple (xs.map pairD)) = true := by
  simp only [noL]
  induction xs with
  | nil => simp [noL.noLs]
  | cons x xs ih =>
    show noL.noLs (pairD x :: xs.map pairD) = true
    simp only [noL.noLs, noL, pairD, Bool.true_and]
    exact ih
theorem noL_pair (p : Str × Str) : noL (pairD p) = true := by simp only [noL, noL.noLs, pairD, Bool.true_and]
theorem noL_hours (o : Option (List (Int × Int))) : noL (hoursD o) = true := by
  cases o with
  | none => rfl
  | some xs =>
    show noL (.tuple (xs.map hpD)) = true
    simp only [noL]
    induction xs with
    | nil => simp [noL.noLs]
    | cons x xs ih =>
      show noL.noLs (hpD x :: xs.map hpD) = true
      simp only [noL.noLs, noL, hpD, Bool.true_and]
      exact ih
theorem noL_data (r : Rd) : noL r.data = true := by
  have h1 := noL_sds r.kinds
  have h2 := noL_hours r.hours
  simp only [noL] at h1
  unfold Rd.data
  simp only [noL, noL.noLs, h1, h2, Bool.and_self, Bool.true_and]
abbrev s_Map___init__ : Stmt := inClass (top 33) 0
abbrev n_Map___init__ : List Str := ["self", "day", "kinds", "places", "roads", "bars", "place", "kind", "road", "bar"]
abbrev p_Map___init__ : List Str := ["self", "day", "kinds", "places", "roads", "bars"]
theorem sc_Map___init__ : FnScope n_Map___init__ p_Map___init__ (defScope s_Map___init__) := ⟨rfl, rfl, rfl, by decide +kernel, rfl, by decide +kernel, by decide +kernel⟩
abbrev s_name_of : Stmt := top 31
abbrev n_name_of : List Str := ["road"]
abbrev p_name_of : List Str := ["road"]
theorem sc_name_of : FnScope n_name_of p_name_of (defScope s_name_of) := ⟨rfl, rfl, rfl, by decide +kernel, rfl, by decide +kernel, by decide +kernel⟩
structure IMap where
  day : Int
  kinds : List Str
  places : List Str
  rs : List Rd
  bars : List (Str × Str)
  d1 : 1 ≤ day
  d2 : day ≤ 1440
  pl : places.length ≤ 30
  pnd : places.Nodup
  pok : ∀ x ∈ places, GoodName x ∧ TOk x
  k1 : 1 ≤ kinds.length
  k2 : kinds.length ≤ 4
  knd : kinds.Nodup
  kok : ∀ x ∈ kinds, GoodName x ∧ TOk x
  rl : rs.length ≤ 60
  rok : ∀ r ∈ rs, RdOk places kinds day r
  rnd : (rs.map Rd.name).Nodup
  rtok : ∀ r ∈ rs, TOk r.name
  bl : bars.length ≤ 40
  bnd : bars.Nodup
  bok : ∀ b ∈ bars, ∃ r ∈ rs, ∃ q ∈ rs, r.name = b.1 ∧ q.name = b.2 ∧ r.fin = q.start
structure MapOk (i : IMap) (c : Ch) : Prop where
  day : c.day = i.day
  places : c.places.Perm i.places
  kinds : c.kinds.Perm i.kinds
  roads : c.roads.Perm (i.rs.map (fixK c.kinds))
  bars : c.bars.Perm i.bars
def spMapI (K : PySem.W.Frag) (CM : Addr) : Sp := SpIQ CM (fun i : IMap => [dI K i.day, dT K (sds i.kinds), dT K (sds i.places), dT K (i.rs.map Rd.data), dT K (i.bars.map pairD)]) fun i fs => ∃ c, fs = chF K c ∧ MapOk i c
theorem RdOk.perm {ps ks ps' ks' : List Str} {day : Int} {r : Rd} (h : RdOk ps ks day r) (h1 : ps'.Perm ps) (h2 : ks'.Perm ks) : RdOk ps' ks' day r := ⟨h.name, h1.mem_iff.mpr h.start, h1.mem_iff.mpr h.fin, h.min1, h.min2, h.knd, fun k hk => h2.mem_iff.mpr (h.kin k hk), h.kok, h.kfew, h.hours⟩
theorem ok_map_init {f fk : Addr} {fd fdk : FuncData} {dvs : List V} {kws : List (Str × V)} (Fn : FunD K "__init__" "Map.__init__" (defArgs s_Map___init__) (defBody s_Map___init__) (defScope s_Map___init__) dvs kws f fd) (T : Txt K mg CM CN CA)
    (c_require : C8.Cal P w K mg base 1 "require" (spReq K) []) (c_is_name : C8.Cal P w K mg base 1 "is_name" (spName K) []) (c_are_different : C8.Cal P w K mg base 1 "are_different" (spDiff K) [])
    (c_Map_checked : C8.Met P w K mg base 2 CM "checked" (spCk K CM) []) (c_Map_checked_bar : C8.Met P w K mg base 3 CM "checked_bar" (spCb K CM) []) (p_road_names : PropC P w K mg base 1 CM "road_names" (spNames4 K CM))
    (Fk : L2.Fun K "name_of" "name_of" s_name_of fk fdk) (m_name_of : mg "name_of" = some (.ref fk))
    (bk : ∀ (kV doc pm : Value) (an : Option Addr) (cdv ct : Value) (us : List Value), us.length = p_name_of.length → bindArgs (PySem.W.fnOf "name_of" "name_of" (defArgs s_name_of) (defBody s_name_of) (defScope s_name_of) .none kV doc pm an cdv ct) ⟨us, []⟩ = pure (p_name_of.zip us)) :
    FnOk P w K mg base CX0 4 f fd p_Map___init__ (spMapI K CM) := by
  refine init_okQ Fn sc_Map___init__ (by decide) (fun i => rfl) fun cdv A outer s H E hr => ?_
  refine ⟨_, (pss_cons (ps_expr (C8.pe_c c_require hr (by decide) (by rfl) (pa_cons (pe_chain op_le op_le pe_int (pv 1) (C8.pe_gc (by rfl) T.g_MOST_DAY)) pa_nil)))
      (pss_cons (ps_expr (C8.pe_c c_require hr (by decide) (by rfl) (pa_cons (pe_and (pe_cmpR op_le (pe_callB call_lenA (by rfl) T.b_len PySem.boot_len (pa_cons (pv 3) pa_nil)) (C8.pe_gc (by rfl) T.g_MOST_PLACES) (nomark _)) (pe_and (C8.pe_c c_are_different hr (by decide) (by rfl) (pa_cons (pv 3) pa_nil)) (pe_one (pe_callB (cr_all rfl) (by rfl) T.b_all PyProof.Rows.boot_all (pa_cons (pe_lc rfl sc_Map___init__.nd (pi_tup (pv 3)) (blkOk_by (own := [("place", 6)]) (N := n_Map___init__) (sc := defScope s_Map___init__) (by decide +kernel)) (fun _ _ _ _ _ => (pg_name (i := 6) sc_Map___init__.nd rfl (Or.inl rfl))) (fun _ _ _ _ _ => pts_nil) (fun _ _ _ _ _ => (C8.pe_c c_is_name hr (by decide) (by rfl) (pa_cons (pv 6) pa_nil)))) pa_nil))))) pa_nil)))
      (pss_cons (ps_expr (C8.pe_c c_require hr (by decide) (by rfl) (pa_cons (pe_and (pe_chain op_le op_le pe_int (pe_callB call_lenA (by rfl) T.b_len PySem.boot_len (pa_cons (pv 2) pa_nil)) (C8.pe_gc (by rfl) T.g_MOST_KINDS)) (pe_and (C8.pe_c c_are_different hr (by decide) (by rfl) (pa_cons (pv 2) pa_nil)) (pe_one (pe_callB (cr_all rfl) (by rfl) T.b_all PyProof.Rows.boot_all (pa_cons (pe_lc rfl sc_Map___init__.nd (pi_tup (pv 2)) (blkOk_by (own := [("kind", 7)]) (N := n_Map___init__) (sc := defScope s_Map___init__) (by decide +kernel)) (fun _ _ _ _ _ => (pg_name (i := 7) sc_Map___init__.nd rfl (Or.inl rfl))) (fun _ _ _ _ _ => pts_nil) (fun _ _ _ _ _ => (C8.pe_c c_is_name hr (by decide) (by rfl) (pa_cons (pv 7) pa_nil)))) pa_nil))))) pa_nil)))
      (pss_cons (ps_fld (pv 0) (pv 1) rfl)
      (pss_cons (ps_fld (pv 0) (pe_callTy call_tupA (by rfl) T.b_tuple PyProof.Rows.boot_tuple (pa_cons (pe_callB cr_sortedT (by rfl) T.b_sorted PyProof.Rows.boot_sorted (pa_cons (pv 3) pa_nil)) pa_nil)) rfl)
      (pss_cons (ps_fld (pv 0) (pe_callTy call_tupA (by rfl) T.b_tuple PyProof.Rows.boot_tuple (pa_cons (pe_callB cr_sortedT (by rfl) T.b_sorted PyProof.Rows.boot_sorted (pa_cons (pv 2) pa_nil)) pa_nil)) rfl)
      (pss_cons (ps_expr (C8.pe_c c_require hr (by decide) (by rfl) (pa_cons (pe_cmpR op_le (pe_callB call_lenA (by rfl) T.b_len PySem.boot_len (pa_cons (pv 4) pa_nil)) (C8.pe_gc (by rfl) T.g_MOST_ROADS) (nomark _)) pa_nil)))
      (pss_cons (ps_fld (pv 0) (pe_callTy call_tupA (by rfl) T.b_tuple PyProof.Rows.boot_tuple (pa_cons (pe_callBK (cr_sortK0 Fk sc_name_of rfl bk rfl rfl (hr.mono (by decide))) (by rfl) T.b_sorted PyProof.Rows.boot_sorted (pa_cons (pe_lc rfl sc_Map___init__.nd (pi_tup (pv 4)) (blkOk_by (own := [("road", 8)]) (N := n_Map___init__) (sc := defScope s_Map___init__) (by decide +kernel)) (fun _ _ _ _ _ => (pg_name (i := 8) sc_Map___init__.nd rfl (Or.inl rfl))) (fun _ _ _ _ _ => pts_nil) (fun _ _ _ _ _ => (C8.pe_mt c_Map_checked hr (by decide) (pv 0) (pa_cons (pv 8) pa_nil)))) pa_nil) (pk_cons (pe_glob (by rfl) m_name_of (show RelV (.ref _) _ from rfl)) pk_nil)) pa_nil)) rfl)
      (pss_cons (ps_expr (C8.pe_c c_require hr (by decide) (by rfl) (pa_cons (C8.pe_c c_are_different hr (by decide) (by rfl) (pa_cons (p_road_names.pe hr (by decide) (pv 0) rfl) pa_nil)) pa_nil)))
      (pss_cons (ps_expr (C8.pe_c c_require hr (by decide) (by rfl) (pa_cons (pe_cmpR op_le (pe_callB call_lenA (by rfl) T.b_len PySem.boot_len (pa_cons (pv 5) pa_nil)) (C8.pe_gc (by rfl) T.g_MOST_BARS) (nomark _)) pa_nil)))
      (pss_cons (ps_fld (pv 0) (pe_callTy call_tupA (by rfl) T.b_tuple PyProof.Rows.boot_tuple (pa_cons (pe_callB cr_sortTT (by rfl) T.b_sorted PyProof.Rows.boot_sorted (pa_cons (pe_lc rfl sc_Map___init__.nd (pi_tup (pv 5)) (blkOk_by (own := [("bar", 9)]) (N := n_Map___init__) (sc := defScope s_Map___init__) (by decide +kernel)) (fun _ _ _ _ _ => (pg_name (i := 9) sc_Map___init__.nd rfl (Or.inl rfl))) (fun _ _ _ _ _ => pts_nil) (fun _ _ _ _ _ => (C8.pe_mt c_Map_checked_bar hr (by decide) (pv 0) (pa_cons (pv 9) pa_nil)))) pa_nil)) pa_nil)) rfl)
      (pss_one (ps_expr (C8.pe_c c_require hr (by decide) (by rfl) (pa_cons (C8.pe_c c_are_different hr (by decide) (by rfl) (pa_cons (pe_fld (pv 0) rfl) pa_nil)) pa_nil))))))))))))))), fun i x => ?_⟩
  obtain ⟨day, kinds, places, rs, bars, d1, d2, pl, pnd, pok, k1, k2, knd, kok, rl, rok, rnd, rtok, bl, bnd, bok⟩ := i
  show ASt K _ [some (.own (.ins x CM [])), some (.d (dI K day)), some (.d (dT K (sds kinds))), some (.d (dT K (sds places))), some (.d (dT K (rs.map Rd.data))), some (.d (dT K (bars.map pairD))), none, none, none, none] _
  refine ast_seq (ast_req (evp_chainT (i := 1) (j := day) (k := 1440) (evp_int rfl) (evp_var rfl rfl) (evp_int rfl) (decide_eq_true d1) (decide_eq_true d2) ⟨rfl, ?_⟩))
  -- the places
  refine ast_seq (ast_req (evp_andT (evp_op (evp_cb (eva_v1 rfl (cok_lenT (evp_int (rok_b (by rw [List.length_map, decide_eq_true (by omega)]; rfl))))))) (evp_andT (evp_callQ (eva_v1 rfl ⟨idT places pnd (fun x hx => (pok x hx).2) (by omega), rfl, fun m e => e⟩))
    (evp_cb (eva_1 (evn_p (evn_fm (l := places) (enc := fun x => dS K x) (p := fun _ => true) (f := fun _ => .bool true) (by simp) (by omega) ?_ ?_ ?_ ?_)))))))
  · exact evi_tup (evp_var rfl ⟨_, rfl, by rw [List.map_map]; rfl⟩)
  · exact fun a ha => evt_yes rfl
  · exact fun a ha _ => evp_callQ (eva_v1 rfl ⟨⟨a, (pok a ha).1⟩, rfl, fun m e => e⟩)
  rw [List.filter_eq_self.mpr (fun _ _ => rfl)]
  have e : places.map (fun _ => PyData.bool true) = (places.map fun _ => true).map PyData.bool := by rw [List.map_map]; rfl
  rw [e]
  refine cok_all ⟨by rw [all_yes _ _ fun _ _ => rfl]; rfl, ?_⟩
  clear e
  -- the kinds
  refine ast_seq (ast_req (evp_andT (evp_chain (evp_int (evp_cb (eva_v1 rfl (cok_lenT (rok_b ⟨_, rfl, ?_⟩)))))) (evp_andT (evp_callQ (eva_v1 rfl ⟨idT kinds knd (fun x hx => (kok x hx).2) (by omega), rfl, fun m e => e⟩))
    (evp_cb (eva_1 (evn_p (evn_fm (l := kinds) (enc := fun x => dS K x) (p := fun _ => true) (f := fun _ => .bool true) (by simp) (by omega) ?_ ?_ ?_ ?_)))))))
  · rw [List.length_map, decide_eq_true (by omega)]
    exact evp_int (rok_b (by rw [decide_eq_true (by omega)]; rfl))
  · exact evi_tup (evp_var rfl ⟨_, rfl, by rw [List.map_map]; rfl⟩)
  · exact fun a ha => evt_yes rfl
  · exact fun a ha _ => evp_callQ (eva_v1 rfl ⟨⟨a, (kok a ha).1⟩, rfl, fun m e => e⟩)
  rw [List.filter_eq_self.mpr (fun _ _ => rfl)]
  have e : kinds.map (fun _ => PyData.bool true) = (kinds.map fun _ => true).map PyData.bool := by rw [List.map_map]; rfl
  rw [e]
  refine cok_all ⟨by rw [all_yes _ _ fun _ _ => rfl]; rfl, ?_⟩
  clear e
  refine ast_seq (ast_fld rfl T.clM T.m_day (by simp) (evp_var rfl ?_))
  show ASt K _ [some (.own (.ins x CM [("day", dI K day)])), some (.d (dI K day)), some (.d (dT K (sds kinds))), some (.d (dT K (sds places))), some (.d (dT K (rs.map Rd.data))), some (.d (dT K (bars.map pairD))), none, none, none, none] _
  refine ast_seq (ast_fld rfl T.clM T.m_places (by simp) (evp_cb (eva_1 (evp_cb (eva_v1 rfl (cok_sortT (by omega) fun ps hps => cok_tupL ?_))))))
  show ASt K _ [some (.own (.ins x CM [("day", dI K day), ("places", dT K (sds ps))])), some (.d (dI K day)), some (.d (dT K (sds kinds))), some (.d (dT K (sds places))), some (.d (dT K (rs.map Rd.data))), some (.d (dT K (bars.map pairD))), none, none, none, none] _
  refine ast_seq (ast_fld rfl T.clM T.m_kinds (by simp) (evp_cb (eva_1 (evp_cb (eva_v1 rfl (cok_sortT (by omega) fun ks hks => cok_tupL ?_))))))
  show ASt K _ [some (.own (.ins x CM (ch3 K day ps ks))), some (.d (dI K day)), some (.d (dT K (sds kinds))), some (.d (dT K (sds places))), some (.d (dT K (rs.map Rd.data))), some (.d (dT K (bars.map pairD))), none, none, none, none] _
  refine ast_seq (ast_req (evp_op (evp_cb (eva_v1 rfl (cok_lenT (evp_int (rok_b ⟨by rw [List.length_map, decide_eq_true (by omega)]; rfl, ?_⟩)))))))
  refine ast_seq (ast_fld rfl T.clM T.m_roads (by simp [ch3]) (evp_cb (eva_1 (evp_sortK0 (eva_1 (evn_p (evn_fm (l := rs) (enc := fun r => dat K r.data) (p := fun _ => true) (f := fun r => (fixK ks r).data) (by simp) (by omega) ?_ ?_ ?_ ?_)))))))
  · exact evi_tup (evp_var rfl ⟨_, rfl, by rw [List.map_map]; rfl⟩)
  · exact fun a ha => evt_yes rfl
  · refine fun a ha _ => evp_thaw (i := 0) rfl (evp_methQ (evp_var rfl ⟨ins_ok rfl, eva_v1 rfl ⟨⟨day, ps, ks, a, (rok a ha).perm hps hks, by rw [hks.length_eq]; omega⟩, rfl, fun m e => ⟨_, e, noL_data _, e⟩⟩⟩))
  rw [List.filter_eq_self.mpr (fun _ _ => rfl)]
  refine eva_1 (evp_ref ⟨_, rfl, rfl, fun d hd => ?_, fun es hes => ?_⟩)
  · obtain ⟨r, _, rfl⟩ := List.mem_map.mp hd
    exact ⟨_, _, rfl⟩
  obtain ⟨cr, hcr, rfl⟩ := perm_map_inv (f := Rd.data) hes (rs.map (fixK ks)) (by rw [List.map_map]; rfl)
  refine cok_tupL ?_
  show ASt K _ [some (.own (.ins x CM (chF4 K ⟨day, ps, ks, cr, []⟩))), some (.d (dI K day)), some (.d (dT K (sds kinds))), some (.d (dT K (sds places))), some (.d (dT K (rs.map Rd.data))), some (.d (dT K (bars.map pairD))), none, none, none, none] _
  have cl : cr.length = rs.length := by rw [hcr.length_eq, List.length_map]
  have cn : (cr.map Rd.name).Perm (rs.map Rd.name) := by
    have := hcr.map Rd.name
    rw [List.map_map] at this
    exact this
  have cnd : (cr.map Rd.name).Nodup := cn.nodup_iff.mpr rnd
  have ctok : ∀ x ∈ cr.map Rd.name, TOk x := fun x hx => by
    obtain ⟨r, hr, rfl⟩ := List.mem_map.mp (cn.mem_iff.mp hx)
    exact rtok r hr
  refine ast_seq (ast_req (evp_callQ (eva_1 (evp_thaw (i := 0) rfl (evp_propQ (name := "road_names") (evp_var rfl ⟨ins_ok rfl, ⟨⟨day, ps, ks, cr, []⟩, by show cr.length ≤ _; omega⟩, rfl, fun m em => ⟨_, em, noL_sds _, idT (cr.map Rd.name) cnd ctok (by rw [List.length_map]; omega), by rw [em]; rfl, fun m e => ⟨e, ?_⟩⟩⟩))))))
  refine ast_seq (ast_req (evp_op (evp_cb (eva_v1 rfl (cok_lenT (evp_int (rok_b ⟨by rw [List.length_map, decide_eq_true (by omega)]; rfl, ?_⟩)))))))
  refine ast_seq (ast_fld rfl T.clM T.m_bars (by simp [chF4]) (evp_cb (eva_1 (evp_cb (eva_1 (evn_p (evn_fm (l := bars) (enc := fun b => dat K (pairD b)) (p := fun _ => true) (f := fun b => pairD b) (by simp) (by omega) ?_ ?_ ?_ ?_)))))))
  · exact evi_tup (evp_var rfl ⟨_, rfl, by rw [List.map_map]; rfl⟩)
  · exact fun a ha => evt_yes rfl
  · intro a ha _
    obtain ⟨r, hr, q, hq, e1, e2, e3⟩ := bok a ha
    have z : ∀ r ∈ rs, (Ch.road? ⟨day, ps, ks, cr, []⟩ r.name) = some (fixK ks r) := fun r hr => road_of (c := ⟨day, ps, ks, cr, []⟩) cnd (hcr.mem_iff.mpr (List.mem_map_of_mem hr))
    exact evp_thaw (i := 0) rfl (evp_methQ (evp_var rfl ⟨ins_ok rfl, eva_v1 rfl ⟨⟨⟨day, ps, ks, cr, []⟩, a.1, a.2, fixK ks r, fixK ks q, e1 ▸ z r hr, e2 ▸ z q hq, e3, by show cr.length ≤ _; omega⟩, rfl, fun m e => ⟨_, e, noL_pair _, e⟩⟩⟩))
  rw [List.filter_eq_self.mpr (fun _ _ => rfl)]
  refine cok_sortTT (fun d hd => ?_) ?_ fun es hes => ?_
  · obtain ⟨r, _, rfl⟩ := List.mem_map.mp hd
    exact ⟨_, _, _, rfl⟩
  · rw [List.map_map]
    show (bars.map id).Nodup
    rw [List.map_id]
    exact bnd
  obtain ⟨cb, hcb, rfl⟩ := perm_map_inv (f := pairD) hes bars rfl
  refine cok_tupL ?_
  show ASt K _ [some (.own (.ins x CM (chF K ⟨day, ps, ks, cr, cb⟩))), some (.d (dI K day)), some (.d (dT K (sds kinds))), some (.d (dT K (sds places))), some (.d (dT K (rs.map Rd.data))), some (.d (dT K (bars.map pairD))), none, none, none, none] _
  have cbn : cb.Nodup := hcb.nodup_iff.mpr bnd
  have cbt : ∀ p ∈ cb, TOk p.1 ∧ TOk p.2 := fun p hp => by
    obtain ⟨r, hr, q, hq, e1, e2, _⟩ := bok p (hcb.mem_iff.mp hp)
    exact ⟨e1 ▸ rtok r hr, e2 ▸ rtok q hq⟩
  refine ast_req (evp_callQ (eva_1 (evp_thaw (i := 0) rfl (evp_fld (evp_var rfl ⟨CM, _, _, rfl, T.clM, T.m_bars, rfl, ⟨_, rfl, noL_pairs _, ⟨cb.map pairD, fun d hd => ?_, diff_pairs cbn, by rw [List.length_map, hcb.length_eq]; omega⟩, rfl, fun m e => ⟨e, ?_⟩⟩⟩)))))
  · obtain ⟨p, hp, rfl⟩ := List.mem_map.mp hd
    exact (sh_pair (cbt p hp).1 (cbt p hp).2).mono (by omega)
  · exact ⟨0, _, rfl, _, rfl, rfl, hps, hks, hcr, hcb⟩
end Wp
/-! The law's numbers and hours. -/
namespace Wp
open PySem PySem.Spec PyProof.Rows L2
variable {P : Program} {w : World} {K : PySem.W.Frag} {mg : Str → Option Value} {base : Heap} {CM CN CA : Addr}
def zds (ns : List Int) : List PyData := ns.map .int
theorem zds_push (ns : List Int) (v : Int) : zds (ns ++ [v]) = zds ns ++ [.int v] := by
  unfold zds
  rw [List.map_append]
  rfl
def Nums (n : Nat) (ns : List Int) : Prop := ns.length = n ∧ ∀ x ∈ ns, 0 ≤ x ∧ x ≤ 1008
theorem Nums.push {n : Nat} {ns : List Int} (h : Nums n ns) {v : Int} (h1 : 0 ≤ v) (h2 : v ≤ 1008) : Nums (n + 1) (ns ++ [v]) := by
  refine ⟨by rw [List.length_append, h.1]; rfl, fun x hx => ?_⟩
  rcases List.mem_append.mp hx with hx | hx
  · exact h.2 x hx
  · rw [List.mem_singleton] at hx
    subst hx
    exact ⟨h1, h2⟩
theorem Nums.mod {n : Nat} {ns : List Int} (h : Nums n ns) (x : Int) : Nums (n + 1) (ns ++ [x % 1009]) := h.push (Int.emod_nonneg _ (by decide)) (by have := Int.emod_lt_of_pos x (show (0 : Int) < 1009 by decide); omega)
theorem Nums.at {n : Nat} {ns : List Int} (h : Nums n ns) {i : Nat} (hi : i < n) : ∃ v, ns[i]? = some v ∧ 0 ≤ v ∧ v ≤ 1008 := by
  have hl : i < ns.length := by rw [h.1]; exact hi
  refine ⟨ns[i], List.getElem?_eq_getElem hl, h.2 _ (List.getElem_mem hl)⟩
theorem rng_at {α : Type} {n i : Nat} {f : Nat → α} {m : α} (h : ((List.range n).map f)[i]? = some m) : i < n ∧ m = f i := by
  rw [List.getElem?_map] at h
  by_cases hi : i < n
  · rw [List.getElem?_range hi] at h
    exact ⟨hi, (Option.some.inj h).symm⟩
  · rw [List.getElem?_eq_none (by rw [List.length_range]; omega)] at h
    cases h
theorem zds_at {ns : List Int} {i : Nat} {v : Int} (h : ns[i]? = some v) : atI (zds ns) (i : Int) = some (.int v) := atI_nat (by unfold zds; rw [List.getElem?_map, h]; rfl)
/-- the number at i, read as int(numbers[i]) -/
theorem cmul_c {i j : Int} (h : -18446744073709551616 < j ∧ j < 18446744073709551616) : CMul i j := .inr h
theorem cmul_l {i j : Int} (h : -18446744073709551616 < i ∧ i < 18446744073709551616) : CMul i j := .inl h
theorem sok_listTo {ds : List PyData} {i : Nat} {P : MP → Prop} (h : i ≤ ds.length) (q : P (dL K (ds.take i))) : SOk (rSlL K) (dL K ds) none (some (i : Int)) P := sok_list (by
  have e0 : HT.sIx ds.length 0 none = 0 := rfl
  have e1 : HT.sIx ds.length ds.length (some (i : Int)) = i := by
    rw [HT.sIx_nat]
    omega
  have e : cutD ds none (some (i : Int)) = ds.take i := by
    unfold cutD
    rw [e0, e1]
    simp
  rw [e]
  exact q)
theorem cdiv_c {i j : Int} (h : 0 < j ∧ j < 1073741824) : CDiv i j := h
theorem cpow18 : CPow 10 18 := by unfold CPow; decide
theorem iteB {b : Bool} {p q : Prop} (h : p) (k : q) : if b = true then p else q := by
  cases b
  · exact k
  · exact h
/-! ### _law_row -/
abbrev s_l_row : Stmt := top 35
abbrev n_l_row : List Str := ["_law_cell", "_law_many", "_law_row_here", "_law_rest", "_law_mixed", "_law_k"]
abbrev p_l_row : List Str := ["_law_cell", "_law_many"]
theorem sc_l_row : FnScope n_l_row p_l_row (defScope s_l_row) := ⟨rfl, rfl, rfl, by decide +kernel, rfl, by decide +kernel, by decide +kernel⟩
def spRow (K : PySem.W.Frag) : Sp := SpQ (fun i : Int × { n : Nat // n ≤ 10000 } => [dI K i.1, dI K i.2.1]) fun i m => ∃ ns, m = dL K (zds ns) ∧ Nums i.2.1 ns
theorem ok_row {f : Addr} {fd : FuncData} (Fn : L2.Fun K "_law_row" "_law_row" s_l_row f fd) (T : Txt K mg CM CN CA) : FnOk P w K mg base CX0 1 f fd p_l_row (spRow K) := by
  refine fun_okQ Fn sc_l_row (fun i => rfl) fun cdv A outer s H E hr => ?_
  refine ⟨_, (pss_cons (ps_set (i := 2) sc_l_row.nd rfl (Or.inl rfl) (pe_lst pa_nil))
      (pss_cons (ps_set (i := 3) sc_l_row.nd rfl (Or.inl rfl) (pe_callB call_absA (by rfl) T.b_abs PyProof.Rows.boot_abs (pa_cons (pv 0) pa_nil)))
      (pss_cons (ps_set (i := 4) sc_l_row.nd rfl (Or.inl rfl) (pe_op op_mod (pe_callTy call_intA (by rfl) T.b_int PyProof.Rows.boot_int (pa_cons (pe_op op_add (pe_op op_mul (pv 3) pe_int) pe_int) pa_nil)) pe_int))
      (pss_cons (ps_for PassesOwn.never rfl (pi_range1 (by rfl) T.b_range (pa_cons (pv 1) pa_nil)) (pg_name (i := 5) sc_l_row.nd rfl (Or.inl rfl)) (pss_cons (ps_set (i := 4) sc_l_row.nd rfl (Or.inl rfl) (pe_op op_mod (pe_callTy call_intA (by rfl) T.b_int PyProof.Rows.boot_int (pa_cons (pe_op op_add (pe_op op_mul (pv 4) pe_int) (pe_op op_mul pe_int (pe_op op_add (pv 5) pe_int))) pa_nil)) pe_int))
      (pss_one (ps_if (pt_cmpR op_ge (pe_callB call_absA (by rfl) T.b_abs PyProof.Rows.boot_abs (pa_cons (pv 0) pa_nil)) (pe_op op_pow pe_int pe_int) (nomark _)) (pss_cons (ps_expr (pe_bm PySem.F.plainAttrs_list PySem.F.slot_list_append PySem.F.type_list_append mt_append (pv 2) (pa_cons (pe_op op_mod (pe_callTy call_intA (by rfl) T.b_int PyProof.Rows.boot_int (pa_cons (pv 3) pa_nil)) pe_int) pa_nil)))
      (pss_one (ps_set (i := 3) sc_l_row.nd rfl (Or.inl rfl) (pe_op op_fdiv (pv 3) pe_int)))) (pss_one (ps_expr (pe_bm PySem.F.plainAttrs_list PySem.F.slot_list_append PySem.F.type_list_append mt_append (pv 2) (pa_cons (pe_op op_mod (pe_callTy call_intA (by rfl) T.b_int PyProof.Rows.boot_int (pa_cons (pe_op op_fdiv (pv 4) pe_int) pa_nil)) pe_int) pa_nil))))))))
      (pss_one (ps_ret (pv 2))))))), fun i => ?_⟩
  obtain ⟨cell, many, hm⟩ := i
  show ASt K _ [some (.d (dI K cell)), some (.d (dI K many)), none, none, none, none] _
  refine ast_seq (ast_asgN (evn_lst (eva_nil ⟨[], rfl, by simp, ?_⟩)))
  refine ast_seq (ast_asg (evp_cb (eva_v1 rfl (cok_abs ?_))))
  refine ast_seq (ast_asg (evp_op (evp_cb (eva_1 (evp_op (evp_op (evp_var rfl (evp_int (rok_ic (cmul_c (by decide)) (evp_int (rok_i (cok_int (evp_int (rok_ic (by decide) ?_))))))))))))))
  refine ast_seq (ast_for (evi_rng (eva_v1 rfl ⟨many, rfl, by omega, by omega, ?_⟩)))
  refine ⟨fun i A' => ∃ ns rest mixed y, Nums i ns ∧ A' = [some (.d (dI K cell)), some (.d (dI K many)), some (.own (.lst (zds ns))), some (.d (dI K rest)), some (.d (dI K mixed)), y], ⟨[], _, _, _, ⟨rfl, fun x hx => nomatch hx⟩, rfl⟩, ?_, ?_⟩
  · rintro i m A' hm' ⟨ns, rest, mixed, y, hn, rfl⟩
    obtain ⟨hi, rfl⟩ := rng_at hm'
    have hi : i < 10000 := by omega
    have hl : (zds ns).length < 100000 := by
      unfold zds
      rw [List.length_map, hn.1]
      omega
    refine as_name (ast_seq (ast_asg (evp_op (evp_cb (eva_1 (evp_op (evp_op (evp_var rfl (evp_int (rok_ic (cmul_c (by decide)) (evp_op (evp_int (evp_op (evp_var rfl (evp_int (rok_i (rok_ic (cmul_l (by decide)) (rok_i (cok_int (evp_int (rok_ic (by decide) ?_)))))))))))))))))))))
    refine ast_if (evt_test (evp_op (evp_cb (eva_v1 rfl (cok_abs (evp_op (evp_int (evp_int (rok_ic cpow18 (rok_b ⟨_, rfl, iteB ?_ ?_⟩))))))))))
    · refine ast_seq (ast_append (i := 2) rfl hl ?_)
      refine evp_op (evp_cb (eva_v1 rfl (cok_int (evp_int (rok_ic (by decide) ⟨_, rfl, ?_⟩)))))
      refine ast_asg ?_
      exact evp_op (evp_var rfl (evp_int (rok_ic (cdiv_c (by decide)) ⟨_, _, _, _, hn.mod _, by rw [zds_push]; rfl⟩)))
    · refine ast_append (i := 2) rfl hl ?_
      exact evp_op (evp_cb (eva_1 (evp_op (evp_var rfl (evp_int (rok_ic (cdiv_c (by decide)) (cok_int (evp_int (rok_ic (by decide) ⟨_, rfl, _, _, _, _, hn.mod _, by rw [zds_push]; rfl⟩)))))))))
  · rintro A' ⟨ns, rest, mixed, y, hn, rfl⟩
    rw [List.length_map, List.length_range] at hn
    exact ast_freeze (i := 2) rfl (ast_ret (evp_var rfl ⟨ns, rfl, hn⟩))
end Wp
/-! The law's numbers and hours. -/
namespace Wp
open PySem PySem.Spec PyProof.Rows L2
variable {P : Program} {w : World} {K : PySem.W.Frag} {mg : Str → Option Value} {base : Heap} {CM CN CA : Addr}
theorem evp_num {A : AS} {Q : MP → Prop} {te : TE} {i n : Nat} {ns : List Int} (h : A[i]? = some (some (.d (dL K (zds ns))))) (hn : Nums n ns) (ht : EvP K te A fun m => ∃ j : Nat, m = dI K (j : Int) ∧ j < n) (q : ∀ v, 0 ≤ v → v ≤ 1008 → Q (dI K v)) : EvP K (tOp (rIxL K) (tVar i) te) A Q :=
  evp_op (evp_var h (ht.mono fun m ⟨j, e, hj⟩ => by
    subst e
    obtain ⟨v, hv, h0, h1⟩ := hn.at hj
    exact rok_ixL (zds_at hv) (q v h0 h1)))
theorem evp_numI {A : AS} {Q : MP → Prop} {te : TE} {i n : Nat} {ns : List Int} (h : A[i]? = some (some (.d (dL K (zds ns))))) (hn : Nums n ns) (ht : EvP K te A fun m => ∃ j : Nat, m = dI K (j : Int) ∧ j < n) (q : ∀ v, 0 ≤ v → v ≤ 1008 → Q (dI K v)) : EvP K (tCB rInt1 (tCons (tOp (rIxL K) (tVar i) te) tNil)) A Q :=
  evp_cb (eva_1 (evp_num h hn ht fun v h0 h1 => cok_int (q v h0 h1)))
/-! ### _law_numbers -/
theorem cut_scr (ns : List Int) (lo hi : Option Int) (f : V → PyData) (hf : ∀ i, f (.int i) = .int i) : ∃ cs : List Int, (cutV (ns.map V.int) lo hi).map f = zds cs ∧ cs.length ≤ ns.length := by
  unfold cutV
  refine ⟨(ns.drop (HT.sIx (ns.map V.int).length 0 lo)).take (HT.sIx (ns.map V.int).length (ns.map V.int).length hi - HT.sIx (ns.map V.int).length 0 lo), ?_, ?_⟩
  · rw [← List.map_drop, ← List.map_take, List.map_map]
    exact List.map_congr_left fun i _ => hf i
  · rw [List.length_take, List.length_drop]
    omega
theorem sok_scrI {ns : List Int} {lo hi : Option Int} {Q : MP → Prop} (q : ∀ cs : List Int, cs.length ≤ ns.length → Q (dL K (zds cs))) : SOk (rSlL K) (scr K ns) lo hi Q := by
  refine sok_scr ?_
  refine (?_ : ∀ f : V → PyData, (∀ i, f (.int i) = .int i) → Q (dL K ((cutV (ns.map V.int) lo hi).map f))) _ (fun _ => rfl)
  intro f hf
  obtain ⟨cs, e, l⟩ := cut_scr ns lo hi f hf
  rw [e]
  exact q cs l
abbrev s_l_numbers : Stmt := top 36
abbrev n_l_numbers : List Str := ["_law_script", "_law_many", "_law_cells", "_law_each", "_law_numbers_here", "_law_cell", "_law_number"]
abbrev p_l_numbers : List Str := ["_law_script", "_law_many"]
theorem sc_l_numbers : FnScope n_l_numbers p_l_numbers (defScope s_l_numbers) := ⟨rfl, rfl, rfl, by decide +kernel, rfl, by decide +kernel, by decide +kernel⟩
def spNumbers (K : PySem.W.Frag) : Sp := SpQ (fun i : { ns : List Int // ns.length ≤ 63 } => [scr K i.1, dI K 170]) fun i m => ∃ xs, m = dL K (zds xs) ∧ Nums 170 xs
theorem ok_numbers {f : Addr} {fd : FuncData} (Fn : L2.Fun K "_law_numbers" "_law_numbers" s_l_numbers f fd) (T : Txt K mg CM CN CA) (c_l_row : C8.Cal P w K mg base 1 "_law_row" (spRow K) []) : FnOk P w K mg base CX0 2 f fd p_l_numbers (spNumbers K) := by
  refine fun_okQ Fn sc_l_numbers (fun i => rfl) fun cdv A outer s H E hr => ?_
  refine ⟨_, (pss_cons (ps_set (i := 2) sc_l_numbers.nd rfl (Or.inl rfl) (pe_slice sl_list (pv 0) po_none (po_some pe_int)))
      (pss_cons (ps_set (i := 3) sc_l_numbers.nd rfl (Or.inl rfl) (pe_op op_add pe_int (pe_op op_fdiv (pv 1) (pe_callB (call_maxA rfl) (by rfl) T.b_max PyProof.Rows.boot_max (pa_cons pe_int (pa_cons (pe_callB call_lenA (by rfl) T.b_len PySem.boot_len (pa_cons (pv 2) pa_nil)) pa_nil))))))
      (pss_cons (ps_set (i := 4) sc_l_numbers.nd rfl (Or.inl rfl) (pe_lst pa_nil))
      (pss_cons (ps_for PassesOwn.never rfl (pi_list (pv 2)) (pg_name (i := 5) sc_l_numbers.nd rfl (Or.inl rfl)) (pss_one (ps_for PassesOwn.never rfl (pi_list (C8.pe_c c_l_row hr (by decide) (by rfl) (pa_cons (pv 5) (pa_cons (pv 3) pa_nil)))) (pg_name (i := 6) sc_l_numbers.nd rfl (Or.inl rfl)) (pss_one (ps_expr (pe_bm PySem.F.plainAttrs_list PySem.F.slot_list_append PySem.F.type_list_append mt_append (pv 4) (pa_cons (pv 6) pa_nil)))))))
      (pss_cons (ps_while PassesOwn.never (pt_cmpR op_lt (pe_callB call_lenA (by rfl) T.b_len PySem.boot_len (pa_cons (pv 4) pa_nil)) (pv 1) (nomark _)) (pss_one (ps_expr (pe_bm PySem.F.plainAttrs_list PySem.F.slot_list_append PySem.F.type_list_append mt_append (pv 4) (pa_cons pe_int pa_nil)))))
      (pss_one (ps_ret (pe_slice sl_list (pv 4) po_none (po_some (pv 1)))))))))), fun i => ?_⟩
  obtain ⟨ns, hns⟩ := i
  show ASt K _ [some (.d (scr K ns)), some (.d (dI K 170)), none, none, none, none, none] _
  refine ast_seq (ast_asg (evp_sl (evp_var rfl (evo_none (evo_some (evp_int ⟨_, rfl, sok_scrI fun cs hlen => ?_⟩))))))
  refine ast_seq (ast_asg (evp_op (evp_int (evp_op (evp_var rfl (evp_cb (eva_cons (evp_int (eva_1 (evp_cb (eva_v1 rfl (cok_lenL (cok_max ?_)))))))))))))
  have hz : (zds cs).length = cs.length := List.length_map _
  rw [hz]
  have hj : ∃ j : Int, (if (cs.length : Int) > 1 then (cs.length : Int) else 1) = j ∧ 1 ≤ j ∧ j ≤ 63 := by
    split
    · exact ⟨_, rfl, by omega, by omega⟩
    · exact ⟨_, rfl, by omega, by omega⟩
  obtain ⟨j, ej, j1, j2⟩ := hj
  rw [ej]
  refine rok_ic (cdiv_c (by omega)) (rok_i ?_)
  have he : ∃ e : Nat, 1 + 170 / j = (e : Int) ∧ e ≤ 171 := by
    have h1 : (0 : Int) ≤ 170 / j := Int.ediv_nonneg (by decide) (by omega)
    have h2 : (170 : Int) / j ≤ 170 := Int.ediv_le_self _ (by decide)
    exact ⟨(1 + 170 / j).toNat, by omega, by omega⟩
  obtain ⟨e, ee, e2⟩ := he
  rw [ee]
  refine ast_seq (ast_asgN (evn_lst (eva_nil ⟨[], rfl, by simp, ?_⟩)))
  have hc : cs.length ≤ 63 := by omega
  refine ast_seq (ast_for (evi_list (evp_var rfl ⟨zds cs, rfl, ?_⟩)))
  refine ⟨fun i A' => ∃ xs y z, Nums xs.length xs ∧ xs.length ≤ i * e ∧ A' = [some (.d (scr K ns)), some (.d (dI K 170)), some (.d (dL K (zds cs))), some (.d (dI K e)), some (.own (.lst (zds xs))), y, z], ⟨[], none, none, ⟨rfl, fun x hx => nomatch hx⟩, by simp, rfl⟩, ?_, ?_⟩
  · rintro i m A' hm' ⟨xs, y, z, hn, hl, rfl⟩
    unfold zds at hm'
    rw [List.map_map, List.getElem?_map] at hm'
    cases hq : cs[i]? with
    | none => rw [hq] at hm'; cases hm'
    | some c =>
      rw [hq] at hm'
      cases hm'
      have hi : i < cs.length := (List.getElem?_eq_some_iff.mp hq).1
      refine as_name (ast_for (evi_list (evp_callQ (eva_v2 rfl rfl ⟨(c, ⟨e, by omega⟩), rfl, fun m hm => ?_⟩))))
      obtain ⟨rs, rfl, hrs⟩ := hm
      refine ⟨zds rs, rfl, ?_⟩
      have hrl : rs.length = e := hrs.1
      refine ⟨fun k A2 => ∃ xs z, Nums xs.length xs ∧ xs.length ≤ i * e + k ∧ A2 = [some (.d (scr K ns)), some (.d (dI K 170)), some (.d (dL K (zds cs))), some (.d (dI K e)), some (.own (.lst (zds xs))), some (.d (dI K c)), z], ⟨xs, z, hn, hl, rfl⟩, ?_, ?_⟩
      · rintro k m A2 hm2 ⟨xs, z, hn, hl, rfl⟩
        unfold zds at hm2
        rw [List.map_map, List.getElem?_map] at hm2
        cases hq2 : rs[k]? with
        | none => rw [hq2] at hm2; cases hm2
        | some v =>
          rw [hq2] at hm2
          cases hm2
          have hk : k < rs.length := (List.getElem?_eq_some_iff.mp hq2).1
          have hv := hrs.2 v (List.mem_of_getElem? hq2)
          have hi2 : i * e ≤ 63 * 171 := Nat.mul_le_mul (by omega) e2
          have hz2 : (zds xs).length = xs.length := List.length_map _
          refine as_name (ast_append (i := 4) rfl (by omega) (evp_var rfl ⟨_, rfl, xs ++ [v], _, ?_, ?_, by rw [zds_push]; rfl⟩))
          · have := hn.push hv.1 hv.2
            rw [List.length_append]
            exact this
          · rw [List.length_append, List.length_singleton]
            omega
      · rintro A2 ⟨xs, z, hn, hl, rfl⟩
        refine ⟨xs, _, _, hn, ?_, rfl⟩
        have hz3 : ((zds rs).map (dat K)).length = rs.length := by unfold zds; rw [List.length_map, List.length_map]
        rw [hz3, hrl] at hl
        rw [Nat.succ_mul]
        exact hl
  · rintro A' ⟨xs, y, z, hn, hl, rfl⟩
    have hz3 : ((zds cs).map (dat K)).length = cs.length := by unfold zds; rw [List.length_map, List.length_map]
    rw [hz3] at hl
    have hi2 : cs.length * e ≤ 63 * 171 := Nat.mul_le_mul hc e2
    have hl2 : xs.length ≤ 10773 := by omega
    clear hl
    refine ast_seq (ast_while (fun n A' => ∃ xs : List Int, Nums xs.length xs ∧ xs.length ≤ 10773 ∧ n = 170 - xs.length ∧ A' = [some (.d (scr K ns)), some (.d (dI K 170)), some (.d (dL K (zds cs))), some (.d (dI K e)), some (.own (.lst (zds xs))), y, z]) _ ⟨xs, hn, hl2, rfl, rfl⟩ ?_)
    rintro n A' ⟨xs, hn, hl, en, rfl⟩
    have hz2 : (zds xs).length = xs.length := List.length_map _
    refine evt_thaw (i := 4) rfl (evt_test (evp_op (evp_cb (eva_v1 rfl (cok_lenL (evp_var rfl (rok_b ⟨_, rfl, ?_⟩)))))))
    rw [hz2]
    by_cases hlt : xs.length < 170
    · rw [decide_eq_true (by omega), if_pos rfl]
      refine ast_append (i := 4) rfl (by omega) (evp_int ⟨.int 0, rfl, 170 - (xs.length + 1), by omega, xs ++ [0], ?_, ?_, ?_, by rw [zds_push]; rfl⟩)
      · have := hn.push (v := 0) (by decide) (by decide)
        rw [List.length_append]
        exact this
      · rw [List.length_append, List.length_singleton]; omega
      · rw [List.length_append, List.length_singleton]
    · rw [decide_eq_false (by omega), if_neg (by decide)]
      refine ast_freeze (i := 4) rfl (ast_ret (evp_sl (evp_var rfl (evo_none (evo_some (evp_var rfl ⟨_, rfl, ?_⟩))))))
      refine sok_listTo (i := 170) (by omega) ⟨xs.take 170, ?_, ?_, fun x hx => hn.2 x (List.mem_of_mem_take hx)⟩
      · unfold zds; rw [List.map_take]; rfl
      · rw [List.length_take]; omega
/-! ### _law_hours -/
def lastH : Int → List (Int × Int) → Int
  | b, [] => b
  | _, p :: r => lastH p.2 r
theorem Hours.snoc {day o c : Int} : ∀ {b : Int} {hs : List (Int × Int)}, Hours day b hs → lastH b hs < o → o < c → c ≤ day → Hours day b (hs ++ [(o, c)]) ∧ lastH b (hs ++ [(o, c)]) = c
  | b, [], _, h1, h2, h3 => ⟨⟨h1, h2, h3, trivial⟩, rfl⟩
  | b, p :: r, ⟨a1, a2, a3, a4⟩, h1, h2, h3 => by
    obtain ⟨i1, i2⟩ := Hours.snoc a4 h1 h2 h3
    exact ⟨⟨a1, a2, a3, i1⟩, i2⟩
abbrev s_l_hours : Stmt := top 37
abbrev n_l_hours : List Str := ["_law_numbers_here", "_law_at", "_law_day", "_law_hours_here", "_law_last", "_law_k", "_law_opened", "_law_closed"]
abbrev p_l_hours : List Str := ["_law_numbers_here", "_law_at", "_law_day"]
theorem sc_l_hours : FnScope n_l_hours p_l_hours (defScope s_l_hours) := ⟨rfl, rfl, rfl, by decide +kernel, rfl, by decide +kernel, by decide +kernel⟩
structure INum where
  ns : List Int
  hn : Nums 170 ns
def spHrs (K : PySem.W.Frag) : Sp := SpQ (fun i : INum × { n : Nat // n + 4 ≤ 170 } × Int => [dL K (zds i.1.ns), dI K i.2.1.1, dI K i.2.2]) fun i m => ∃ o, m = dat K (hoursD o) ∧ ∀ hs, o = some hs → hs.length ≤ 4 ∧ Hours i.2.2 (-1) hs
theorem ok_hrs {f : Addr} {fd : FuncData} (Fn : L2.Fun K "_law_hours" "_law_hours" s_l_hours f fd) (T : Txt K mg CM CN CA) : FnOk P w K mg base CX0 1 f fd p_l_hours (spHrs K) := by
  refine fun_okQ Fn sc_l_hours (fun i => rfl) fun cdv A outer s H E hr => ?_
  refine ⟨_, (pss_cons (ps_if (pt_cmpR op_eq (pe_op op_mod (pe_callTy call_intA (by rfl) T.b_int PyProof.Rows.boot_int (pa_cons (pe_ix ix_list (pv 0) (pv 1) (fun _ _ => rfl)) pa_nil)) pe_int) pe_int (nomark _)) (pss_one (ps_ret pe_non)) pss_nil)
      (pss_cons (ps_set (i := 3) sc_l_hours.nd rfl (Or.inl rfl) (pe_lst pa_nil))
      (pss_cons (ps_set (i := 4) sc_l_hours.nd rfl (Or.inl rfl) (pe_un un_neg pe_int))
      (pss_cons (ps_for PassesOwn.never rfl (pi_range1 (by rfl) T.b_range (pa_cons (pe_op op_mod (pe_callTy call_intA (by rfl) T.b_int PyProof.Rows.boot_int (pa_cons (pe_ix ix_list (pv 0) (pv 1) (fun _ _ => rfl)) pa_nil)) pe_int) pa_nil)) (pg_name (i := 5) sc_l_hours.nd rfl (Or.inl rfl)) (pss_cons (ps_set (i := 6) sc_l_hours.nd rfl (Or.inl rfl) (pe_op op_add (pe_op op_add (pv 4) pe_int) (pe_op op_mod (pe_callTy call_intA (by rfl) T.b_int PyProof.Rows.boot_int (pa_cons (pe_ix ix_list (pv 0) (pe_op op_add (pe_op op_add (pv 1) pe_int) (pv 5)) (fun _ _ => rfl)) pa_nil)) pe_int)))
      (pss_cons (ps_set (i := 7) sc_l_hours.nd rfl (Or.inl rfl) (pe_op op_add (pe_op op_add (pv 6) pe_int) (pe_op op_mod (pe_callTy call_intA (by rfl) T.b_int PyProof.Rows.boot_int (pa_cons (pe_op op_fdiv (pe_ix ix_list (pv 0) (pe_op op_add (pe_op op_add (pv 1) pe_int) (pv 5)) (fun _ _ => rfl)) pe_int) pa_nil)) pe_int)))
      (pss_one (ps_if (pt_cmpR op_le (pv 7) (pv 2) (nomark _)) (pss_cons (ps_expr (pe_bm PySem.F.plainAttrs_list PySem.F.slot_list_append PySem.F.type_list_append mt_append (pv 3) (pa_cons (pe_tup (pa_cons (pv 6) (pa_cons (pv 7) pa_nil))) pa_nil)))
      (pss_one (ps_set (i := 4) sc_l_hours.nd rfl (Or.inl rfl) (pv 7)))) pss_nil)))))
      (pss_one (ps_ret (pe_callTy call_tupA (by rfl) T.b_tuple PyProof.Rows.boot_tuple (pa_cons (pv 3) pa_nil)))))))), fun i => ?_⟩
  obtain ⟨⟨ns, hn⟩, ⟨at_, hat⟩, day⟩ := i
  show ASt K _ [some (.d (dL K (zds ns))), some (.d (dI K at_)), some (.d (dI K day)), none, none, none, none, none] _
  refine ast_seq (ast_if (evt_test (evp_op (evp_op (evp_numI rfl hn (evp_var rfl ⟨at_, rfl, by omega⟩) fun v v0 v1 => evp_int (rok_ic (by decide) (evp_int (rok_eqI ⟨_, rfl, iteB ?_ (ast_next ?_)⟩))))))))
  · exact ast_ret (evp_non ⟨none, rfl, fun hs e => nomatch e⟩)
  refine ast_seq (ast_asgN (evn_lst (eva_nil ⟨[], rfl, by simp, ?_⟩)))
  refine ast_seq (ast_asg (evp_un (evp_int (uok_neg ?_))))
  refine ast_seq (ast_for (evi_rng (eva_1 (evp_op (evp_numI rfl hn (evp_var rfl ⟨at_, rfl, by omega⟩) fun v v0 v1 => evp_int (rok_ic (by decide) ⟨_, rfl, by omega, by omega, ?_⟩))))))
  have hv : (v % 4).toNat ≤ 3 := by omega
  refine ⟨fun i A' => ∃ hs y z u, Hours day (-1) hs ∧ hs.length ≤ i ∧ A' = [some (.d (dL K (zds ns))), some (.d (dI K at_)), some (.d (dI K day)), some (.own (.lst (hs.map hpD))), some (.d (dI K (lastH (-1) hs))), y, z, u], ⟨[], none, none, none, trivial, by simp, rfl⟩, ?_, ?_⟩
  · rintro i m A' hm' ⟨hs, y, z, u, hh, hl, rfl⟩
    obtain ⟨hi, rfl⟩ := rng_at hm'
    refine as_name ?_
    refine ast_seq (ast_asg (evp_op (evp_op (evp_var rfl (evp_int (rok_i (evp_op (evp_numI rfl hn (evp_op (evp_op (evp_var rfl (evp_int (rok_i (evp_var rfl (rok_i ⟨at_ + 1 + i, rfl, by omega⟩)))))) ) fun a a0 a1 => evp_int (rok_ic (by decide) (rok_i ?_))))))))))
    refine ast_seq (ast_asg (evp_op (evp_op (evp_var rfl (evp_int (rok_i (evp_op (evp_cb (eva_1 (evp_op (evp_num rfl hn (evp_op (evp_op (evp_var rfl (evp_int (rok_i (evp_var rfl (rok_i ⟨at_ + 1 + i, rfl, by omega⟩)))))) ) fun b b0 b1 => evp_int (rok_ic (cdiv_c (by decide)) (cok_int (evp_int (rok_ic (by decide) (rok_i ?_))))))))))))))))
    have l1 : lastH (-1) hs < lastH (-1) hs + 1 + a % 4 := by omega
    have l2 : lastH (-1) hs + 1 + a % 4 < lastH (-1) hs + 1 + a % 4 + 1 + b / 4 % 6 := by omega
    generalize lastH (-1) hs + 1 + a % 4 = o at *
    generalize o + 1 + b / 4 % 6 = c at *
    refine ast_if (evt_test (evp_op (evp_var rfl (evp_var rfl (rok_b ⟨_, rfl, ?_⟩)))))
    by_cases hc : c ≤ day
    · rw [decide_eq_true hc, if_pos rfl]
      obtain ⟨s1, s2⟩ := Hours.snoc hh l1 l2 hc
      refine ast_seq (ast_append (i := 3) rfl (by rw [List.length_map]; omega) (evp_tup (eva_v2 rfl rfl ⟨[.int o, .int c], rfl, by simp, hpD (o, c), rfl, ?_⟩)))
      refine ast_asg (evp_var rfl ⟨hs ++ [(o, c)], some (.d (dI K (i : Int))), some (.d (dI K o)), some (.d (dI K c)), s1, ?_, ?_⟩)
      · rw [List.length_append, List.length_singleton]; omega
      · rw [s2, List.map_append]; rfl
    · rw [decide_eq_false hc, if_neg (by decide)]
      exact ast_next ⟨hs, _, _, _, hh, by omega, rfl⟩
  · rintro A' ⟨hs, y, z, u, hh, hl, rfl⟩
    rw [List.length_map, List.length_range] at hl
    exact ast_freeze (i := 3) rfl (ast_ret (evp_cb (eva_v1 rfl (cok_tupL ⟨some hs, rfl, fun hs' e => by cases e; exact ⟨by omega, hh⟩⟩))))
end Wp
/-! The law's names. -/
namespace Wp
open PySem PySem.Spec PyProof.Rows L2
variable {P : Program} {w : World} {K : PySem.W.Frag} {mg : Str → Option Value} {base : Heap} {CM CN CA : Addr}
def mkS (l : List Nat) : Str := ⟨l.toArray⟩
theorem mkS_len (l : List Nat) : (mkS l).length = l.length := List.size_toArray
theorem mkS_list (l : List Nat) : (mkS l).cps.toList = l := by unfold mkS; simp
theorem mkS_app (l m : List Nat) : mkS l ++ mkS m = mkS (l ++ m) := by
  show (⟨l.toArray ++ m.toArray⟩ : Str) = ⟨(l ++ m).toArray⟩
  rw [List.append_toArray]
theorem mkS_to (l : List Nat) {k : Nat} (h : k ≤ l.length) : cutS (mkS l) none (some (k : Int)) = mkS (l.take k) := by
  unfold cutS
  rw [HT.sIx_nat, mkS_len, mkS_list]
  have e0 : HT.sIx l.length 0 none = 0 := rfl
  rw [e0, Nat.min_eq_left h]
  simp [mkS]
theorem mkS_from (l : List Nat) {k : Nat} (h : k ≤ l.length) : cutS (mkS l) (some (k : Int)) none = mkS (l.drop k) := by
  unfold cutS
  rw [HT.sIx_nat, mkS_len, mkS_list, Nat.min_eq_left h]
  have e0 : HT.sIx l.length l.length none = l.length := rfl
  rw [e0]
  have : l.length - k = (l.drop k).length := by rw [List.length_drop]
  rw [this, List.take_length]
  rfl
theorem mkS_from1 (l : List Nat) : cutS (mkS l) (some 1) none = mkS (l.drop 1) := by
  cases l with
  | nil => rfl
  | cons c l => exact mkS_from (c :: l) (k := 1) (by simp)
theorem join_fold (l : List Nat) : ∀ acc : Array Nat, (l.map fun c => mkS [c]).foldl (fun acc p => acc ++ (mkS []).cps ++ p.cps) acc = acc ++ l.toArray := by
  induction l with
  | nil => intro acc; simp
  | cons c l ih =>
    intro acc
    rw [List.map_cons, List.foldl_cons, ih]
    simp [mkS]
theorem join_mk (l : List Nat) : Txt.join (Str.ofString "") (l.map fun c => mkS [c]) = mkS l := by
  have e : Str.ofString "" = mkS [] := by decide +kernel
  rw [e]
  cases l with
  | nil => rfl
  | cons c l =>
    show (⟨(l.map fun c => mkS [c]).foldl (fun acc p => acc ++ (mkS []).cps ++ p.cps) (mkS [c]).cps⟩ : Str) = _
    rw [join_fold]
    simp [mkS]
theorem sg_first : ∀ n, n < 26 → signs[n]? = some (97 + n) := by decide +kernel
theorem sg_dig : ∀ n, n < 26 → 97 + n ∉ digits := by decide +kernel
theorem sg_len : signs.length = 36 := by decide +kernel
theorem sg_ok : ∀ c ∈ signs, c < 1114112 := by decide +kernel
def letS : Str := Str.ofString "abcdefghijklmnopqrstuvwxyz0123456789"
theorem let_len : letS.length ≤ 100000 := by decide +kernel
theorem sg_at {x : Int} {A : AS} {Q : MP → Prop} (h0 : 0 ≤ x) (h1 : x < 36) (q : ∀ c, c ∈ signs → Q (dS K (mkS [c]))) : ROk rIxS (dS K letS) (dI K x) Q := by
  have hl : x.toNat < signs.length := by rw [sg_len]; omega
  have e : atI signs x = some signs[x.toNat] := by
    have := atI_nat (l := signs) (i := x.toNat) (List.getElem?_eq_getElem hl)
    rwa [Int.toNat_of_nonneg h0] at this
  exact rok_ixS let_len e (q _ (List.getElem_mem hl))
theorem sg_at26 {x : Int} {Q : MP → Prop} (h0 : 0 ≤ x) (h1 : x < 26) (q : Q (dS K (mkS [97 + x.toNat]))) : ROk rIxS (dS K letS) (dI K x) Q := by
  have e : atI signs x = some (97 + x.toNat) := by
    have := atI_nat (l := signs) (i := x.toNat) (sg_first _ (by omega))
    rwa [Int.toNat_of_nonneg h0] at this
  exact rok_ixS let_len e q
/-- a name of the law -/
def NameAt (t : Nat) (x : Str) : Prop := ∃ l, x = mkS ((97 + t) :: l) ∧ t < 26 ∧ l.length ≤ 11 ∧ ∀ c ∈ l, c ∈ signs
theorem NameAt.good {t : Nat} {x : Str} (h : NameAt t x) : GoodName x ∧ TOk x := by
  obtain ⟨l, rfl, ht, hl, hs⟩ := h
  have f : 97 + t ∈ signs := List.mem_of_getElem? (sg_first t ht)
  have a : ∀ c ∈ (97 + t) :: l, c ∈ signs := fun c hc => by
    rcases List.mem_cons.mp hc with e | hc
    · exact e ▸ f
    · exact hs c hc
  refine ⟨⟨?_, ?_, ?_, ?_⟩, ?_⟩
  · rw [mkS_len, List.length_cons]; omega
  · rw [mkS_len, List.length_cons]; omega
  · intro c hc
    rw [mkS_list] at hc
    cases hc
    exact sg_dig t ht
  · rw [mkS_list]; exact a
  · show ((mkS ((97 + t) :: l)).cps.all fun x => decide (x < 1114112)) = true
    rw [← Array.all_toList, mkS_list, List.all_eq_true]
    exact fun c hc => decide_eq_true (sg_ok c (a c hc))
theorem NameAt.inj {t u : Nat} {x : Str} (h : NameAt t x) (k : NameAt u x) : t = u := by
  obtain ⟨l, rfl, _⟩ := h
  obtain ⟨m, e, _⟩ := k
  have := congrArg (fun z : Str => z.cps.toList) e
  simp only [mkS_list] at this
  injection this with e _
  omega
structure NamesOk (n : Nat) (xs : List Str) : Prop where
  len : xs.length = n
  nd : xs.Nodup
  good : ∀ x ∈ xs, GoodName x ∧ TOk x
theorem ast_mid {ts us : TS} {A : AS} {E : AE} (M : AS → Prop) (h : ASt K ts A { E with nx := M }) (k : ∀ A', M A' → ASt K us A' E) : ASt K (tSeq ts us) A E :=
  ast_seq fun F0 H0 σ F H D w ok => h F0 H0 σ F H D w { nx := fun A σ F H wd m => ok.nx A σ F H wd (k A m), rt := ok.rt, bk := ok.bk, ct := ok.ct, rn := ok.rn }
abbrev s_l_names : Stmt := top 41
abbrev n_l_names : List Str := ["_law_number", "_law_many", "_law_letters", "_law_size", "_law_rest", "_law_k", "_law_place", "_law_names_here", "_law_own", "_law_spot", "_law_step", "_law_first"]
abbrev p_l_names : List Str := ["_law_number", "_law_many"]
theorem sc_l_names : FnScope n_l_names p_l_names (defScope s_l_names) := ⟨rfl, rfl, rfl, by decide +kernel, rfl, by decide +kernel, by decide +kernel⟩
def spNms (K : PySem.W.Frag) : Sp := SpQ (fun i : { i : Int × Nat // 0 ≤ i.1 ∧ i.2 ≤ 8 } => [dI K i.1.1, dI K i.1.2]) fun i m => ∃ xs, m = dL K (sds xs) ∧ NamesOk i.1.2 xs
theorem ok_nms {f : Addr} {fd : FuncData} (Fn : L2.Fun K "_law_names" "_law_names" s_l_names f fd) (T : Txt K mg CM CN CA) : FnOk P w K mg base CX0 1 f fd p_l_names (spNms K) := by
  refine fun_okQ Fn sc_l_names (fun i => rfl) fun cdv A outer s H E hr => ?_
  refine ⟨_, (pss_cons (ps_set (i := 2) sc_l_names.nd rfl (Or.inr rfl) pe_str)
      (pss_cons (ps_set (i := 3) sc_l_names.nd rfl (Or.inl rfl) (pe_op op_mod (pe_callTy call_intA (by rfl) T.b_int PyProof.Rows.boot_int (pa_cons (pv 0) pa_nil)) pe_int))
      (pss_cons (ps_set (i := 4) sc_l_names.nd rfl (Or.inl rfl) (pe_bm PySem.F.plainAttrs_str PySem.F.slot_str_join PySem.F.type_str_join mt_join1 pe_str (pa_cons (pe_lc rfl sc_l_names.nd (pi_range1 (by rfl) T.b_range (pa_cons (pv 3) pa_nil)) (blkOk_by (own := [("_law_k", 5)]) (N := n_l_names) (sc := defScope s_l_names) (by decide +kernel)) (fun _ _ _ _ _ => (pg_name (i := 5) sc_l_names.nd rfl (Or.inl rfl))) (fun _ _ _ _ _ => pts_nil) (fun _ _ _ _ _ => (pe_ix ix_str (pv 2) (pe_op op_mod (pe_callTy call_intA (by rfl) T.b_int PyProof.Rows.boot_int (pa_cons (pe_op op_add (pv 0) (pe_op op_mul (pe_op op_mul pe_int (pv 5)) (pv 5))) pa_nil)) pe_int) (fun _ _ => rfl)))) pa_nil)))
      (pss_cons (ps_set (i := 6) sc_l_names.nd rfl (Or.inl rfl) (pe_op op_mod (pe_callTy call_intA (by rfl) T.b_int PyProof.Rows.boot_int (pa_cons (pe_op op_fdiv (pv 0) pe_int) pa_nil)) (pe_op op_add (pv 3) pe_int)))
      (pss_cons (ps_set (i := 7) sc_l_names.nd rfl (Or.inl rfl) (pe_lst pa_nil))
      (pss_cons (ps_for PassesOwn.never rfl (pi_range1 (by rfl) T.b_range (pa_cons (pv 1) pa_nil)) (pg_name (i := 5) sc_l_names.nd rfl (Or.inl rfl)) (pss_cons (ps_set (i := 8) sc_l_names.nd rfl (Or.inl rfl) (pv 4))
      (pss_cons (ps_if (pt_cmpR op_eq (pe_op op_mod (pe_callTy call_intA (by rfl) T.b_int PyProof.Rows.boot_int (pa_cons (pe_op op_add (pe_op op_fdiv (pv 0) pe_int) (pv 5)) pa_nil)) pe_int) pe_int (nomark _)) (pss_one (ps_set (i := 8) sc_l_names.nd rfl (Or.inl rfl) (pe_slice sl_str (pv 4) (po_some pe_int) po_none))) pss_nil)
      (pss_cons (ps_set (i := 9) sc_l_names.nd rfl (Or.inl rfl) (pe_callB (call_minA rfl) (by rfl) T.b_min PyProof.Rows.boot_min (pa_cons (pv 6) (pa_cons (pe_callB call_lenA (by rfl) T.b_len PySem.boot_len (pa_cons (pv 8) pa_nil)) pa_nil))))
      (pss_cons (ps_set (i := 10) sc_l_names.nd rfl (Or.inl rfl) pe_int)
      (pss_cons (ps_if (pt_cmpR op_eq (pe_op op_mod (pe_callTy call_intA (by rfl) T.b_int PyProof.Rows.boot_int (pa_cons (pe_op op_fdiv (pv 0) pe_int) pa_nil)) pe_int) pe_int (nomark _)) (pss_one (ps_set (i := 10) sc_l_names.nd rfl (Or.inl rfl) pe_int)) pss_nil)
      (pss_cons (ps_set (i := 11) sc_l_names.nd rfl (Or.inl rfl) (pe_op op_addStr (pe_ix ix_str (pv 2) (pe_op op_mod (pe_callTy call_intA (by rfl) T.b_int PyProof.Rows.boot_int (pa_cons (pe_op op_add (pv 0) (pe_op op_mul pe_int (pv 5))) pa_nil)) pe_int) (fun _ _ => rfl)) (pe_slice sl_str (pv 8) po_none (po_some (pv 9)))))
      (pss_one (ps_expr (pe_bm PySem.F.plainAttrs_list PySem.F.slot_list_append PySem.F.type_list_append mt_append (pv 7) (pa_cons (pe_op op_addStr (pe_op op_addStr (pv 11) (pe_ix ix_str (pv 2) (pe_op op_mod (pe_callTy call_intA (by rfl) T.b_int PyProof.Rows.boot_int (pa_cons (pe_op op_add (pv 0) (pe_op op_mul (pv 10) (pv 5))) pa_nil)) pe_int) (fun _ _ => rfl))) (pe_slice sl_str (pv 8) (po_some (pv 9)) po_none)) pa_nil)))))))))))
      (pss_one (ps_ret (pv 7))))))))), fun i => ?_⟩
  obtain ⟨⟨n, many⟩, h0, hmany⟩ := i
  have h0 : 0 ≤ n := h0
  have hmany : many ≤ 8 := hmany
  show ASt K _ [some (.d (dI K n)), some (.d (dI K many)), none, none, none, none, none, none, none, none, none, none] _
  refine ast_seq (ast_asg (evp_str ?_))
  refine ast_seq (ast_asg (evp_op (evp_cb (eva_v1 rfl (cok_int (evp_int (rok_ic (by decide) ?_)))))))
  have hsz : ∃ sz : Nat, n % 11 = (sz : Int) ∧ sz ≤ 10 := ⟨(n % 11).toNat, by omega, by omega⟩
  obtain ⟨sz, esz, hsz⟩ := hsz
  rw [esz]
  show ASt K _ [some (.d (dI K n)), some (.d (dI K many)), some (.d (dS K letS)), some (.d (dI K sz)), none, none, none, none, none, none, none, none] _
  have hat : ∀ x : Int, ∃ c, atI signs (x % 36) = some c ∧ c ∈ signs := fun x => by
    have hl : (x % 36).toNat < signs.length := by rw [sg_len]; omega
    refine ⟨_, ?_, List.getElem_mem hl⟩
    have := atI_nat (l := signs) (i := (x % 36).toNat) (List.getElem?_eq_getElem hl)
    rwa [Int.toNat_of_nonneg (by omega)] at this
  let g : Nat → Nat := fun k => ((atI signs ((n + 7 * (k : Int) * (k : Int)) % 36)).getD 0)
  have hg : ∀ k : Nat, atI signs ((n + 7 * (k : Int) * (k : Int)) % 36) = some (g k) ∧ g k ∈ signs := fun k => by
    obtain ⟨c, e, hc⟩ := hat (n + 7 * (k : Int) * (k : Int))
    have : g k = c := by show (atI signs _).getD 0 = c; rw [e]; rfl
    rw [this]
    exact ⟨e, hc⟩
  clear_value g
  refine ast_seq (ast_asg (evp_bm (evp_str ⟨ty_str, eva_1 (evn_p (evn_fm (l := List.range sz) (enc := fun k => dI K (k : Int)) (p := fun _ => true) (f := fun k => .str (mkS [g k])) (by simp) (by rw [List.length_range]; omega) ?_ ?_ ?_ ?_))⟩)))
  · exact evi_rng (eva_v1 rfl ⟨sz, rfl, by omega, by omega, by rw [Int.toNat_natCast]⟩)
  · exact fun a ha => evt_yes rfl
  · intro a ha _
    refine evp_op (evp_var rfl (evp_op (evp_cb (eva_1 (evp_op (evp_var rfl (evp_op (evp_op (evp_int (evp_var rfl (rok_ic (cmul_l (by decide)) (evp_var rfl (rok_ic (cmul_l ?_) (rok_i (cok_int (evp_int (rok_ic (by decide) (rok_ixS let_len (hg a).1 rfl))))))))))))))))))
    have : a < sz := List.mem_range.mp ha
    omega
  rw [List.filter_eq_self.mpr (fun _ _ => rfl)]
  have ej : (List.range sz).map (fun k => PyData.str (mkS [g k])) = (((List.range sz).map g).map fun c => mkS [c]).map PyData.str := by rw [List.map_map, List.map_map]; rfl
  rw [ej]
  have hrl : ((List.range sz).map g).length = sz := by rw [List.length_map, List.length_range]
  have hra : ∀ c ∈ (List.range sz).map g, c ∈ signs := fun c hc => by
    obtain ⟨k, _, rfl⟩ := List.mem_map.mp hc
    exact (hg k).2
  generalize (List.range sz).map g = rest at hrl hra
  refine mok_join ?_ ?_
  · have : ∀ l : List Nat, ((l.map fun c => mkS [c]).map (·.length)).sum = l.length := by
      intro l
      induction l with
      | nil => rfl
      | cons c l ih => rw [List.map_cons, List.map_cons, List.sum_cons, ih, mkS_len]; simp; omega
    rw [this]
    show rest.length + _ * (Str.ofString "").length ≤ _
    have e0 : (Str.ofString "").length = 0 := by decide +kernel
    rw [e0]
    omega
  rw [join_mk]
  refine ast_seq (ast_asg (evp_op (evp_cb (eva_1 (evp_op (evp_var rfl (evp_int (rok_ic (cdiv_c (by decide)) (cok_int (evp_op (evp_var rfl (evp_int (rok_i (rok_ic ?_ ?_))))))))))))))
  · omega
  have hpl : ∃ pl : Nat, n / 11 % ((sz : Int) + 1) = (pl : Int) := ⟨(n / 11 % ((sz : Int) + 1)).toNat, by
    have := Int.emod_nonneg (n / 11) (show ((sz : Int) + 1) ≠ 0 by omega)
    omega⟩
  obtain ⟨pl, epl⟩ := hpl
  rw [epl]
  refine ast_seq (ast_asgN (evn_lst (eva_nil ⟨[], rfl, by simp, ?_⟩)))
  refine ast_seq (ast_for (evi_rng (eva_v1 rfl ⟨many, rfl, by omega, by omega, ?_⟩)))
  refine ⟨fun i A' => ∃ xs y z u v t, xs.length = i ∧ xs.Nodup ∧ (∀ x ∈ xs, ∃ j, j < i ∧ NameAt ((n + 3 * (j : Int)) % 26).toNat x) ∧ A' = [some (.d (dI K n)), some (.d (dI K many)), some (.d (dS K letS)), some (.d (dI K sz)), some (.d (dS K (mkS rest))), y, some (.d (dI K pl)), some (.own (.lst (sds xs))), z, u, v, t], ⟨[], none, none, none, none, none, rfl, .nil, (fun x hx => by cases hx), rfl⟩, ?_, ?_⟩
  · rintro i m A' hm' ⟨xs, y, z, u, v, t, hl, hnd, hx, rfl⟩
    obtain ⟨hi, rfl⟩ := rng_at hm'
    refine as_name ?_
    refine ast_seq (ast_asg (evp_var rfl ?_))
    refine ast_mid (fun A' => ∃ own : List Nat, own.length ≤ 10 ∧ (∀ c ∈ own, c ∈ signs) ∧ A' = [some (.d (dI K n)), some (.d (dI K many)), some (.d (dS K letS)), some (.d (dI K sz)), some (.d (dS K (mkS rest))), some (.d (dI K (i : Int))), some (.d (dI K pl)), some (.own (.lst (sds xs))), some (.d (dS K (mkS own))), u, v, t]) ?_ ?_
    · refine ast_if (evt_test (evp_op (evp_op (evp_cb (eva_1 (evp_op (evp_op (evp_var rfl (evp_int (rok_ic (cdiv_c (by decide)) (evp_var rfl (rok_i (cok_int (evp_int (rok_ic (by decide) (evp_int (rok_eqI ⟨_, rfl, iteB ?_ ?_⟩)))))))))))))))))
      · refine ast_asg (evp_sl (evp_var rfl (evo_some (evp_int ⟨_, rfl, evo_none (sok_str (by rw [mkS_len]; omega) ?_)⟩))))
        rw [mkS_from1]
        exact ⟨rest.drop 1, by rw [List.length_drop]; omega, fun c hc => hra c (List.mem_of_mem_drop hc), rfl⟩
      · exact ast_next ⟨rest, by omega, hra, rfl⟩
    rintro A' ⟨own, ho, ha, rfl⟩
    refine ast_seq (ast_asg (evp_cb (eva_cons (evp_var rfl (eva_1 (evp_cb (eva_v1 rfl (cok_lenS (by rw [mkS_len]; omega) (cok_min ?_)))))))))
    have hsp : ∃ sp : Nat, (if ((mkS own).length : Int) < (pl : Int) then ((mkS own).length : Int) else (pl : Int)) = (sp : Int) ∧ sp ≤ own.length := by
      rw [mkS_len]
      split
      · exact ⟨own.length, rfl, Nat.le_refl _⟩
      · exact ⟨pl, rfl, by omega⟩
    obtain ⟨sp, esp, hsp⟩ := hsp
    rw [esp]
    refine ast_seq (ast_asg (evp_int ?_))
    refine ast_mid (fun A' => ∃ step : Int, 0 ≤ step ∧ step ≤ 31 ∧ A' = [some (.d (dI K n)), some (.d (dI K many)), some (.d (dS K letS)), some (.d (dI K sz)), some (.d (dS K (mkS rest))), some (.d (dI K (i : Int))), some (.d (dI K pl)), some (.own (.lst (sds xs))), some (.d (dS K (mkS own))), some (.d (dI K sp)), some (.d (dI K step)), t]) ?_ ?_
    · refine ast_if (evt_test (evp_op (evp_op (evp_cb (eva_1 (evp_op (evp_var rfl (evp_int (rok_ic (cdiv_c (by decide)) (cok_int (evp_int (rok_ic (by decide) (evp_int (rok_eqI ⟨_, rfl, iteB ?_ ?_⟩))))))))))))))
      · exact ast_asg (evp_int ⟨31, by decide, by decide, rfl⟩)
      · exact ast_next ⟨5, by decide, by decide, rfl⟩
    rintro A' ⟨step, s0, s1, rfl⟩
    have hfr : 0 ≤ (n + 3 * (i : Int)) % 26 ∧ (n + 3 * (i : Int)) % 26 < 26 := ⟨by omega, by omega⟩
    refine ast_seq (ast_asg (evp_op (evp_op (evp_var rfl (evp_op (evp_cb (eva_1 (evp_op (evp_var rfl (evp_op (evp_int (evp_var rfl (rok_ic (cmul_l (by decide)) (rok_i (cok_int (evp_int (rok_ic (by decide) (sg_at26 hfr.1 hfr.2 (evp_sl (evp_var rfl (evo_none (evo_some (evp_var rfl ⟨_, rfl, sok_str (by rw [mkS_len]; omega) ?_⟩)))))))))))))))))))))))
    rw [mkS_to own hsp]
    have htk : (own.take sp).length ≤ 10 := by rw [List.length_take]; omega
    refine rok_addS (by rw [mkS_len, mkS_len]; simp only [List.length_singleton]; omega) ?_
    rw [mkS_app]
    have hsl : (sds xs).length = xs.length := List.length_map _
    refine ast_append (i := 7) rfl (by omega) ?_
    refine evp_op (evp_op (evp_var rfl (evp_op (evp_var rfl (evp_op (evp_cb (eva_1 (evp_op (evp_var rfl (evp_op (evp_var rfl (evp_var rfl (rok_ic (cmul_l (by omega)) (rok_i (cok_int (evp_int (rok_ic (by decide) ?_)))))))))))))))))
    refine sg_at (A := []) (by omega) (by omega) fun c hc => ?_
    refine rok_addS (by rw [mkS_len, mkS_len]; simp only [List.length_singleton, List.length_append]; omega) ?_
    rw [mkS_app]
    refine evp_sl (evp_var rfl (evo_some (evp_var rfl ⟨_, rfl, evo_none (sok_str (by rw [mkS_len]; omega) ?_)⟩)))
    rw [mkS_from own hsp]
    have hdr : (own.drop sp).length = own.length - sp := List.length_drop
    have htk2 : (own.take sp).length = sp := by rw [List.length_take]; omega
    refine rok_addS (by rw [mkS_len, mkS_len]; simp only [List.length_singleton, List.length_append]; omega) ?_
    rw [mkS_app]
    have hnm : NameAt ((n + 3 * (i : Int)) % 26).toNat (mkS ([97 + ((n + 3 * (i : Int)) % 26).toNat] ++ own.take sp ++ [c] ++ own.drop sp)) := by
      refine ⟨own.take sp ++ [c] ++ own.drop sp, by simp, by omega, ?_, ?_⟩
      · simp only [List.length_append, List.length_singleton]; omega
      · intro d hd
        rcases List.mem_append.mp hd with hd | hd
        · rcases List.mem_append.mp hd with hd | hd
          · exact ha d (List.mem_of_mem_take hd)
          · rw [List.mem_singleton] at hd
            exact hd ▸ hc
        · exact ha d (List.mem_of_mem_drop hd)
    refine ⟨_, rfl, xs ++ [_], _, _, _, _, _, ?_, ?_, ?_, by unfold sds; rw [List.map_append]; rfl⟩
    · rw [List.length_append, List.length_singleton, hl]
    · rw [List.nodup_append]
      refine ⟨hnd, by simp, fun a ha b hb e => ?_⟩
      rw [List.mem_singleton] at hb
      obtain ⟨j, hj, hja⟩ := hx a ha
      rw [e, hb] at hja
      have := NameAt.inj hja hnm
      omega
    · intro x hx'
      rcases List.mem_append.mp hx' with hx' | hx'
      · obtain ⟨j, hj, hja⟩ := hx x hx'
        exact ⟨j, by omega, hja⟩
      · rw [List.mem_singleton] at hx'
        exact ⟨i, by omega, hx' ▸ hnm⟩
  · rintro A' ⟨xs, y, z, u, v, t, hl, hnd, hx, rfl⟩
    rw [List.length_map, List.length_range] at hl
    refine ast_freeze (i := 7) rfl (ast_ret (evp_var rfl ⟨xs, rfl, ?_, hnd, fun x hx' => ?_⟩))
    · rw [hl]; rfl
    · obtain ⟨j, _, hj⟩ := hx x hx'
      exact hj.good
end Wp
/-! The law's roads and bars. -/
namespace Wp
open PySem PySem.Spec PyProof.Rows L2
variable {P : Program} {w : World} {K : PySem.W.Frag} {mg : Str → Option Value} {base : Heap} {CM CN CA : Addr}
theorem sds_at {xs : List Str} {i : Int} {x : Str} {j : Nat} (e : i = (j : Int)) (h : xs[j]? = some x) : atI (sds xs) i = some (.str x) := by
  subst e
  exact atI_nat (by unfold sds; rw [List.getElem?_map, h]; rfl)
/-- a draw from a tuple of texts: xs[v % len(xs)] -/
theorem pick_at {xs : List Str} (h : xs ≠ []) (v : Int) : ∃ x ∈ xs, atI (sds xs) (v % (xs.length : Int)) = some (.str x) := by
  have hl : 0 < xs.length := List.length_pos_iff.mpr h
  have h0 : 0 ≤ v % (xs.length : Int) := Int.emod_nonneg _ (by omega)
  have h1 : v % (xs.length : Int) < xs.length := Int.emod_lt_of_pos _ (by omega)
  have hj : (v % (xs.length : Int)).toNat < xs.length := by omega
  exact ⟨xs[(v % (xs.length : Int)).toNat], List.getElem_mem hj, sds_at (j := (v % (xs.length : Int)).toNat) (by omega) (List.getElem?_eq_getElem hj)⟩
structure LRd (day : Int) (kinds places : List Str) (r : Rd) : Prop where
  start : r.start ∈ places
  fin : r.fin ∈ places
  min1 : 1 ≤ r.min
  min2 : r.min ≤ 1000
  sub : r.kinds.Sublist kinds
  hours : ∀ hs, r.hours = some hs → hs.length ≤ 4 ∧ Hours day (-1) hs
theorem sub_range {xs : List Str} (p : Nat → Bool) : (((List.range xs.length).filter p).map fun k => (xs[k]?).getD (Str.ofString "")).Sublist xs := by
  have e : (List.range xs.length).map (fun k => (xs[k]?).getD (Str.ofString "")) = xs := by
    refine List.ext_getElem (by rw [List.length_map, List.length_range]) fun i h1 h2 => ?_
    rw [List.getElem_map, List.getElem_range, List.getElem?_eq_getElem h2]
    rfl
  have := List.Sublist.map (fun k => (xs[k]?).getD (Str.ofString "")) (List.filter_sublist (p := p) (l := List.range xs.length))
  rwa [e] at this
abbrev s_l_road : Stmt := top 38
abbrev n_l_road : List Str := ["_law_numbers_here", "_law_at", "_law_name", "_law_day", "_law_kinds", "_law_places", "_law_start", "_law_end", "_law_minutes", "_law_used", "_law_k"]
abbrev p_l_road : List Str := ["_law_numbers_here", "_law_at", "_law_name", "_law_day", "_law_kinds", "_law_places"]
theorem sc_l_road : FnScope n_l_road p_l_road (defScope s_l_road) := ⟨rfl, rfl, rfl, by decide +kernel, rfl, by decide +kernel, by decide +kernel⟩
structure IRdL where
  ns : List Int
  hn : Nums 170 ns
  at_ : Nat
  hat : at_ + 10 ≤ 170
  name : Str
  day : Int
  kinds : List Str
  hk : kinds.length ≤ 1000
  places : List Str
  hp : places ≠ []
def spRdL (K : PySem.W.Frag) : Sp := SpQ (fun i : IRdL => [dL K (zds i.ns), dI K i.at_, dS K i.name, dI K i.day, dT K (sds i.kinds), dT K (sds i.places)]) fun i m => ∃ r, m = dat K r.data ∧ r.name = i.name ∧ LRd i.day i.kinds i.places r
theorem ok_rdl {f : Addr} {fd : FuncData} (Fn : L2.Fun K "_law_road" "_law_road" s_l_road f fd) (T : Txt K mg CM CN CA) (c_l_hours : C8.Cal P w K mg base 1 "_law_hours" (spHrs K) []) : FnOk P w K mg base CX0 2 f fd p_l_road (spRdL K) := by
  refine fun_okQ Fn sc_l_road (fun i => rfl) fun cdv A outer s H E hr => ?_
  refine ⟨_, (pss_cons (ps_set (i := 6) sc_l_road.nd rfl (Or.inl rfl) (pe_ix ix_tup (pv 5) (pe_op op_mod (pe_callTy call_intA (by rfl) T.b_int PyProof.Rows.boot_int (pa_cons (pe_ix ix_list (pv 0) (pv 1) (fun _ _ => rfl)) pa_nil)) (pe_callB call_lenA (by rfl) T.b_len PySem.boot_len (pa_cons (pv 5) pa_nil))) (fun _ _ => rfl)))
      (pss_cons (ps_set (i := 7) sc_l_road.nd rfl (Or.inl rfl) (pe_ix ix_tup (pv 5) (pe_op op_mod (pe_callTy call_intA (by rfl) T.b_int PyProof.Rows.boot_int (pa_cons (pe_ix ix_list (pv 0) (pe_op op_add (pv 1) pe_int) (fun _ _ => rfl)) pa_nil)) (pe_callB call_lenA (by rfl) T.b_len PySem.boot_len (pa_cons (pv 5) pa_nil))) (fun _ _ => rfl)))
      (pss_cons (ps_set (i := 8) sc_l_road.nd rfl (Or.inl rfl) (pe_op op_add pe_int (pe_op op_mod (pe_callTy call_intA (by rfl) T.b_int PyProof.Rows.boot_int (pa_cons (pe_ix ix_list (pv 0) (pe_op op_add (pv 1) pe_int) (fun _ _ => rfl)) pa_nil)) (pe_ix ix_tup (pe_tup (pa_cons pe_int (pa_cons pe_int (pa_cons pe_int pa_nil)))) (pe_op op_mod (pe_callTy call_intA (by rfl) T.b_int PyProof.Rows.boot_int (pa_cons (pe_ix ix_list (pv 0) (pe_op op_add (pv 1) pe_int) (fun _ _ => rfl)) pa_nil)) pe_int) (fun _ _ => rfl)))))
      (pss_cons (ps_set (i := 9) sc_l_road.nd rfl (Or.inl rfl) (pe_callTy call_tupA (by rfl) T.b_tuple PyProof.Rows.boot_tuple (pa_cons (pe_lc rfl sc_l_road.nd (pi_range1 (by rfl) T.b_range (pa_cons (pe_callB call_lenA (by rfl) T.b_len PySem.boot_len (pa_cons (pv 4) pa_nil)) pa_nil)) (blkOk_by (own := [("_law_k", 10)]) (N := n_l_road) (sc := defScope s_l_road) (by decide +kernel)) (fun _ _ _ _ _ => (pg_name (i := 10) sc_l_road.nd rfl (Or.inl rfl))) (fun _ _ _ _ _ => (pts_one (pt_cmpR op_gt (pe_op op_mod (pe_callTy call_intA (by rfl) T.b_int PyProof.Rows.boot_int (pa_cons (pe_op op_add (pe_ix (show IxR _ (rIxL K) from ix_list) (pv 0) (pe_op op_add (pv 1) pe_int) (fun _ _ => rfl)) (pv 10)) pa_nil)) pe_int) pe_int (nomark _)))) (fun _ _ _ _ _ => (pe_ix (show IxR _ (rIxT K) from ix_tup) (pv 4) (pv 10) (fun _ _ => rfl)))) pa_nil)))
      (pss_one (ps_ret (pe_tup (pa_cons (pv 2) (pa_cons (pv 6) (pa_cons (pv 7) (pa_cons (pv 8) (pa_cons (pv 9) (pa_cons (C8.pe_c c_l_hours hr (by decide) (by rfl) (pa_cons (pv 0) (pa_cons (pe_op op_add (pv 1) pe_int) (pa_cons (pv 3) pa_nil)))) pa_nil))))))))))))), fun i => ?_⟩
  obtain ⟨ns, hn, at_, hat, name, day, kinds, hk, places, hp⟩ := i
  show ASt K _ [some (.d (dL K (zds ns))), some (.d (dI K at_)), some (.d (dS K name)), some (.d (dI K day)), some (.d (dT K (sds kinds))), some (.d (dT K (sds places))), none, none, none, none, none] _
  have hpl : (sds places).length = places.length := List.length_map _
  have hpp : 0 < places.length := List.length_pos_iff.mpr hp
  refine ast_seq (ast_asg (evp_op (evp_var rfl (evp_op (evp_numI rfl hn (evp_var rfl ⟨at_, rfl, by omega⟩) fun v v0 v1 => evp_cb (eva_v1 rfl (cok_lenT (rok_ic (by rw [hpl]; omega) ?_))))))))
  rw [hpl]
  obtain ⟨st, hst, est⟩ := pick_at hp v
  refine rok_ixT est ?_
  refine ast_seq (ast_asg (evp_op (evp_var rfl (evp_op (evp_numI rfl hn (evp_op (evp_var rfl (evp_int (rok_i ⟨at_ + 1, rfl, by omega⟩)))) fun u u0 u1 => evp_cb (eva_v1 rfl (cok_lenT (rok_ic (by rw [hpl]; omega) ?_))))))))
  rw [hpl]
  obtain ⟨fi, hfi, efi⟩ := pick_at hp u
  refine rok_ixT efi ?_
  refine ast_seq (ast_asg (evp_op (evp_int (evp_op (evp_numI rfl hn (evp_op (evp_var rfl (evp_int (rok_i ⟨at_ + 2, rfl, by omega⟩)))) fun a a0 a1 => evp_op (evp_tup (eva_cons (evp_int (eva_cons (evp_int (eva_1 (evp_int ⟨[.int 9, .int 9, .int 40], rfl, by simp, ?_⟩))))))))))))
  refine evp_op (evp_numI rfl hn (evp_op (evp_var rfl (evp_int (rok_i ⟨at_ + 3, rfl, by omega⟩)))) fun b b0 b1 => evp_int (rok_ic (by decide) ?_))
  have hd : ∃ d : Int, atI [PyData.int 9, .int 9, .int 40] (b % 3) = some (.int d) ∧ 0 < d ∧ d ≤ 40 := by
    have : b % 3 = 0 ∨ b % 3 = 1 ∨ b % 3 = 2 := by omega
    rcases this with e | e | e <;> rw [e]
    · exact ⟨9, rfl, by decide, by decide⟩
    · exact ⟨9, rfl, by decide, by decide⟩
    · exact ⟨40, rfl, by decide, by decide⟩
  obtain ⟨d, ed, d0, d1⟩ := hd
  have hmin : 1 ≤ 1 + a % d ∧ 1 + a % d ≤ 1000 := by
    have h1 := Int.emod_nonneg a (show d ≠ 0 by omega)
    have h2 := Int.emod_lt_of_pos a d0
    omega
  refine rok_ixT ed (rok_ic d0 (rok_i ?_))
  generalize 1 + a % d = mn at hmin
  -- the kinds
  obtain ⟨c, hc, c0, c1⟩ := hn.at (i := at_ + 4) (by omega)
  have hkl : (sds kinds).length = kinds.length := List.length_map _
  refine ast_seq (ast_asg (evp_cb (eva_1 (evn_p (evn_fm (l := List.range kinds.length) (enc := fun k => dI K (k : Int)) (p := fun k => decide ((c + (k : Int)) % 4 > 0)) (f := fun k => .str ((kinds[k]?).getD (Str.ofString ""))) (by simp) (by rw [List.length_range]; omega) ?_ ?_ ?_ ?_)))))
  · exact evi_rng (eva_1 (evp_cb (eva_v1 rfl (cok_lenT ⟨_, rfl, by omega, by omega, by rw [hkl, Int.toNat_natCast]⟩))))
  · exact fun k hk => evt_test (evp_op (evp_op (evp_cb (eva_1 (evp_op (evp_op (evp_var rfl (evp_op (evp_var rfl (evp_int (rok_i (rok_ixL (zds_at hc) (evp_var rfl (rok_i (cok_int (evp_int (rok_ic (by decide) (evp_int (rok_b ⟨_, rfl, rfl⟩)))))))))))))))))))
  · intro k hk _
    have hk' : k < kinds.length := List.mem_range.mp hk
    refine evp_op (evp_var rfl (evp_var rfl (rok_ixT (sds_at rfl (List.getElem?_eq_getElem hk')) ?_)))
    rw [List.getElem?_eq_getElem hk']
    rfl
  have ek : ((List.range kinds.length).filter fun k : Nat => decide ((c + (k : Int)) % 4 > 0)).map (fun k => PyData.str ((kinds[k]?).getD (Str.ofString ""))) = sds (((List.range kinds.length).filter fun k : Nat => decide ((c + (k : Int)) % 4 > 0)).map fun k => (kinds[k]?).getD (Str.ofString "")) := by
    unfold sds
    rw [List.map_map]
    rfl
  rw [ek]
  have hsub := sub_range (xs := kinds) fun k : Nat => decide ((c + (k : Int)) % 4 > 0)
  generalize ((List.range kinds.length).filter fun k : Nat => decide ((c + (k : Int)) % 4 > 0)).map (fun k => (kinds[k]?).getD (Str.ofString "")) = us at hsub
  refine cok_tupL ?_
  refine ast_ret (evp_tup (eva_v5e rfl rfl rfl rfl rfl (evp_callQ (eva_cons (evp_var rfl (eva_cons (evp_op (evp_var rfl (evp_int (rok_i (eva_v1 rfl ⟨(⟨ns, hn⟩, ⟨at_ + 5, by omega⟩, day), rfl, fun m hm => ?_⟩)))))))))))
  obtain ⟨o, rfl, ho⟩ := hm
  exact ⟨[.str name, .str st, .str fi, .int mn, .tuple (sds us), hoursD o], rfl, by simp, ⟨name, st, fi, mn, us, o⟩, rfl, rfl, hst, hfi, hmin.1, hmin.2, hsub, ho⟩
abbrev s_l_bars : Stmt := top 39
abbrev n_l_bars : List Str := ["_law_numbers_here", "_law_at", "_law_roads", "_law_pairs", "_law_one", "_law_other", "_law_chosen", "_law_k"]
abbrev p_l_bars : List Str := ["_law_numbers_here", "_law_at", "_law_roads"]
theorem sc_l_bars : FnScope n_l_bars p_l_bars (defScope s_l_bars) := ⟨rfl, rfl, rfl, by decide +kernel, rfl, by decide +kernel, by decide +kernel⟩
structure IBarL where
  ns : List Int
  hn : Nums 170 ns
  at_ : Nat
  hat : at_ + 7 ≤ 170
  roads : List Rd
  few : roads.length ≤ 8
  nd : (roads.map Rd.name).Nodup
def BarsOk (roads : List Rd) (bs : List (Str × Str)) : Prop := ∀ b ∈ bs, ∃ r ∈ roads, ∃ q ∈ roads, r.name = b.1 ∧ q.name = b.2 ∧ r.fin = q.start
def spBarL (K : PySem.W.Frag) : Sp := SpQ (fun i : IBarL => [dL K (zds i.ns), dI K i.at_, dT K (i.roads.map Rd.data)]) fun i m => ∃ bs : List (Str × Str), m = dT K (bs.map pairD) ∧ bs.length ≤ 40 ∧ bs.Nodup ∧ BarsOk i.roads bs
theorem ok_barl {f : Addr} {fd : FuncData} (Fn : L2.Fun K "_law_bars" "_law_bars" s_l_bars f fd) (T : Txt K mg CM CN CA) : FnOk P w K mg base CX0 1 f fd p_l_bars (spBarL K) := by
  refine fun_okQ Fn sc_l_bars (fun i => rfl) fun cdv A outer s H E hr => ?_
  refine ⟨_, (pss_cons (ps_set (i := 3) sc_l_bars.nd rfl (Or.inl rfl) (pe_lst pa_nil))
      (pss_cons (ps_for PassesOwn.never rfl (pi_tup (pv 2)) (pg_name (i := 4) sc_l_bars.nd rfl (Or.inr rfl)) (pss_one (ps_set (i := 3) sc_l_bars.nd rfl (Or.inl rfl) (pe_op op_cat (pv 3) (pe_lc rfl sc_l_bars.nd (pi_tup (pv 2)) (blkOk_by (own := [("_law_other", 5)]) (N := n_l_bars) (sc := defScope s_l_bars) (by decide +kernel)) (fun _ _ _ _ _ => (pg_name (i := 5) sc_l_bars.nd rfl (Or.inl rfl))) (fun _ _ _ _ _ => (pts_one (pt_cmpR op_eq (pe_ix (show IxR _ (rIxT K) from ix_tup) (pv 4) pe_int (fun _ _ => rfl)) (pe_ix (show IxR _ (rIxT K) from ix_tup) (pv 5) pe_int (fun _ _ => rfl)) (nomark _)))) (fun _ _ _ _ _ => (pe_tup (pa_cons (pe_ix (show IxR _ (rIxT K) from ix_tup) (pv 4) pe_int (fun _ _ => rfl)) (pa_cons (pe_ix (show IxR _ (rIxT K) from ix_tup) (pv 5) pe_int (fun _ _ => rfl)) pa_nil)))))))))
      (pss_cons (ps_set (i := 6) sc_l_bars.nd rfl (Or.inl rfl) (pe_lst pa_nil))
      (pss_cons (ps_for PassesOwn.never rfl (pi_range1 (by rfl) T.b_range (pa_cons (pe_callB call_lenA (by rfl) T.b_len PySem.boot_len (pa_cons (pv 3) pa_nil)) pa_nil)) (pg_name (i := 7) sc_l_bars.nd rfl (Or.inl rfl)) (pss_one (ps_if (PW.pt (pw_and (pt_cmpR op_eq (pe_op op_mod (pe_callTy call_intA (by rfl) T.b_int PyProof.Rows.boot_int (pa_cons (pe_op op_add (pe_ix ix_list (pv 0) (pe_op op_add (pv 1) (pe_op op_mod (pv 7) pe_int)) (fun _ _ => rfl)) (pe_op op_mul pe_int (pv 7))) pa_nil)) pe_int) pe_int (nomark _)) (pw_and1 (pt_cmpR op_lt (pe_callB call_lenA (by rfl) T.b_len PySem.boot_len (pa_cons (pv 6) pa_nil)) pe_int (nomark _))))) (pss_one (ps_expr (pe_bm PySem.F.plainAttrs_list PySem.F.slot_list_append PySem.F.type_list_append mt_append (pv 6) (pa_cons (pe_ix ix_list (pv 3) (pv 7) (fun _ _ => rfl)) pa_nil)))) pss_nil)))
      (pss_one (ps_ret (pe_callTy call_tupA (by rfl) T.b_tuple PyProof.Rows.boot_tuple (pa_cons (pe_callB cr_sortTT (by rfl) T.b_sorted PyProof.Rows.boot_sorted (pa_cons (pv 6) pa_nil)) pa_nil)))))))), fun i => ?_⟩
  obtain ⟨ns, hn, at_, hat, roads, few, nd⟩ := i
  show ASt K _ [some (.d (dL K (zds ns))), some (.d (dI K at_)), some (.d (dT K (roads.map Rd.data))), none, none, none, none, none] _
  refine ast_seq (ast_asg (evn_p (evn_lst (eva_nil ⟨[], rfl, by simp, ?_⟩))))
  refine ast_seq (ast_for (evi_tup (evp_var rfl ⟨_, rfl, ?_⟩)))
  refine ⟨fun i A' => ∃ (ps : List (Str × Str)) (y z : Option Sl), ps.length ≤ i * 8 ∧ ps.Nodup ∧ BarsOk roads ps ∧ (∀ b ∈ ps, ∃ (j : Nat) (r : Rd), j < i ∧ roads[j]? = some r ∧ r.name = b.1) ∧ A' = [some (.d (dL K (zds ns))), some (.d (dI K at_)), some (.d (dT K (roads.map Rd.data))), some (.d (dL K (ps.map pairD))), y, z, none, none], ⟨[], none, none, by simp, .nil, (fun b hb => by cases hb), (fun b hb => by cases hb), rfl⟩, ?_, ?_⟩
  · rintro i m A' hm' ⟨ps, y, z, hl, hnd, hb, hj, rfl⟩
    rw [List.map_map, List.getElem?_map] at hm'
    cases hq : roads[i]? with
    | none => rw [hq] at hm'; cases hm'
    | some r =>
      rw [hq] at hm'
      cases hm'
      have hi : i < roads.length := (List.getElem?_eq_some_iff.mp hq).1
      have hrm : r ∈ roads := List.mem_of_getElem? hq
      refine as_name (ast_asg (evp_op (evp_var rfl (evn_p (evn_fm (l := roads) (enc := fun q => dat K q.data) (p := fun q => decide (r.fin = q.start)) (f := fun q => pairD (r.name, q.name)) (by simp) (by omega) ?_ ?_ ?_ ?_)))))
      · exact evi_tup (evp_var rfl ⟨_, rfl, by rw [List.map_map]; rfl⟩)
      · exact fun q hq' => evt_test (evp_op (evp_op (evp_var rfl (evp_int (rok_ixT (d := .str r.fin) rfl (evp_op (evp_var rfl (evp_int (rok_ixT (d := .str q.start) rfl (rok_eqS ⟨_, rfl, rfl⟩))))))))))
      · exact fun q hq' _ => evp_tup (eva_cons (evp_op (evp_var rfl (evp_int (rok_ixT (d := .str r.name) rfl (eva_1 (evp_op (evp_var rfl (evp_int (rok_ixT (d := .str q.name) rfl ⟨[.str r.name, .str q.name], rfl, by simp, rfl⟩))))))))))
      have hfl : (roads.filter fun q => decide (r.fin = q.start)).length ≤ roads.length := List.length_filter_le _ _
      refine rok_cat (by rw [List.length_map, List.length_map]; omega) ⟨ps ++ (roads.filter fun q => decide (r.fin = q.start)).map (fun q => (r.name, q.name)), _, _, ?_, ?_, ?_, ?_, by rw [List.map_append, List.map_map]; rfl⟩
      · rw [List.length_append, List.length_map]
        omega
      · rw [List.nodup_append]
        refine ⟨hnd, ?_, fun a ha b hb' e => ?_⟩
        · have h1 : ((roads.filter fun q => decide (r.fin = q.start)).map Rd.name).Nodup := List.Pairwise.sublist (List.Sublist.map _ List.filter_sublist) nd
          have h2 : (((roads.filter fun q => decide (r.fin = q.start)).map Rd.name).map fun x => (r.name, x)).Nodup := List.Pairwise.map _ (fun a b h e => h (by injection e)) h1
          rw [List.map_map] at h2
          exact h2
        · obtain ⟨q, _, rfl⟩ := List.mem_map.mp hb'
          obtain ⟨j, r', hji, hr', er'⟩ := hj a ha
          rw [e] at er'
          have er' : r'.name = r.name := er'
          have h1 : (roads.map Rd.name)[j]? = some r.name := by rw [List.getElem?_map, hr']; exact congrArg some er'
          have h2 : (roads.map Rd.name)[i]? = some r.name := by rw [List.getElem?_map, hq]; rfl
          have := (List.getElem?_inj (List.getElem?_eq_some_iff.mp h1).1 nd).mp (h1.trans h2.symm)
          omega
      · intro b hb'
        rcases List.mem_append.mp hb' with h | h
        · exact hb b h
        · obtain ⟨q, hq', rfl⟩ := List.mem_map.mp h
          obtain ⟨h1, h2⟩ := List.mem_filter.mp hq'
          exact ⟨r, hrm, q, h1, rfl, rfl, of_decide_eq_true h2⟩
      · intro b hb'
        rcases List.mem_append.mp hb' with h | h
        · obtain ⟨j, r', h1, h2⟩ := hj b h
          exact ⟨j, r', by omega, h2⟩
        · obtain ⟨q, hq', rfl⟩ := List.mem_map.mp h
          exact ⟨i, r, by omega, hq, rfl⟩
  rintro A' ⟨ps, y, z, hl, hnd, hb, _, rfl⟩
  have hml : ((roads.map Rd.data).map (dat K)).length = roads.length := by rw [List.length_map, List.length_map]
  rw [hml] at hl
  have hl : ps.length ≤ 64 := by omega
  refine ast_seq (ast_asgN (evn_lst (eva_nil ⟨[], rfl, by simp, ?_⟩)))
  have hpl : (ps.map pairD).length = ps.length := List.length_map _
  refine ast_seq (ast_for (evi_rng (eva_1 (evp_cb (eva_v1 rfl (cok_lenL ⟨_, rfl, by omega, by omega, ?_⟩))))))
  rw [hpl, Int.toNat_natCast]
  refine ⟨fun i A' => ∃ (cs : List (Str × Str)) (u : Option Sl), cs.Sublist (ps.take i) ∧ cs.length ≤ 40 ∧ A' = [some (.d (dL K (zds ns))), some (.d (dI K at_)), some (.d (dT K (roads.map Rd.data))), some (.d (dL K (ps.map pairD))), y, z, some (.own (.lst (cs.map pairD))), u], ⟨[], none, by simp, by simp, rfl⟩, ?_, ?_⟩
  · rintro i m A' hm' ⟨cs, u, hs, hc, rfl⟩
    obtain ⟨hi, rfl⟩ := rng_at hm'
    obtain ⟨b, hb'⟩ : ∃ b, ps[i]? = some b := ⟨_, List.getElem?_eq_getElem hi⟩
    have et : ps.take (i + 1) = ps.take i ++ [b] := by rw [List.take_add_one, hb']; rfl
    have hs2 : cs.Sublist (ps.take (i + 1)) := by rw [et]; exact hs.trans (List.sublist_append_left _ _)
    refine as_name (ast_if (evt_and (evt_test (evp_op (evp_op (evp_cb (eva_1 (evp_op (evp_num rfl hn (evp_op (evp_var rfl (evp_op (evp_var rfl (evp_int (rok_ic (by decide) (rok_i ⟨at_ + i % 7, rfl, by omega⟩))))))) fun v v0 v1 => evp_op (evp_int (evp_var rfl (rok_ic (cmul_l (by decide)) (rok_i (cok_int (evp_int (rok_ic (by decide) (evp_int (rok_eqI ⟨_, rfl, iteB ?_ ?_⟩))))))))))))))))))
    · refine evt_thaw (i := 6) rfl (evt_test (evp_op (evp_cb (eva_v1 rfl (cok_lenL (evp_int (rok_b ⟨_, rfl, ?_⟩)))))))
      have hcl : (cs.map pairD).length = cs.length := List.length_map _
      rw [hcl]
      by_cases h40 : cs.length < 40
      · rw [decide_eq_true (by omega), if_pos rfl]
        refine ast_append (i := 6) rfl (by omega) (evp_op (evp_var rfl (evp_var rfl (rok_ixL (d := pairD b) (atI_nat (by rw [List.getElem?_map, hb']; rfl)) ⟨_, rfl, cs ++ [b], _, ?_, ?_, by rw [List.map_append]; rfl⟩))))
        · rw [et]
          exact hs.append (List.Sublist.refl _)
        · rw [List.length_append, List.length_singleton]; omega
      · rw [decide_eq_false (by omega), if_neg (by decide)]
        exact ast_next ⟨cs, _, hs2, hc, rfl⟩
    · rw [if_neg (by decide)]
      exact ast_next ⟨cs, _, hs2, hc, rfl⟩
  · rintro A' ⟨cs, u, hs, hc, rfl⟩
    have hs3 : cs.Sublist ps := hs.trans (List.take_sublist _ _)
    refine ast_freeze (i := 6) rfl (ast_ret (evp_cb (eva_1 (evp_cb (eva_v1 rfl (cok_sortTT (fun d hd => ?_) ?_ fun es hes => ?_))))))
    · obtain ⟨r, _, rfl⟩ := List.mem_map.mp hd
      exact ⟨_, _, _, rfl⟩
    · rw [List.map_map]
      show (cs.map id).Nodup
      rw [List.map_id]
      exact List.Pairwise.sublist hs3 hnd
    · obtain ⟨bs, hbs, rfl⟩ := perm_map_inv (f := pairD) hes cs rfl
      exact cok_tupL ⟨bs, rfl, by rw [hbs.length_eq]; exact hc, hbs.nodup_iff.mpr (List.Pairwise.sublist hs3 hnd), fun b hb' => hb b (hs3.subset (hbs.mem_iff.mp hb'))⟩
end Wp
/-! The law's parts. -/
namespace Wp
open PySem PySem.Spec PyProof.Rows L2
variable {P : Program} {w : World} {K : PySem.W.Frag} {mg : Str → Option Value} {base : Heap} {CM CN CA : Addr}
structure Prt where
  day : Int
  kinds : List Str
  places : List Str
  roads : List Rd
  bars : List (Str × Str)
def prtM (K : PySem.W.Frag) (p : Prt) : MP := lsM [dI K p.day, dT K (sds p.kinds), tuX K (sds p.places), dT K (p.roads.map Rd.data), dT K (p.bars.map pairD)]
structure PrtOk (p : Prt) : Prop where
  d1 : 1 ≤ p.day
  d2 : p.day ≤ 1440
  k1 : 1 ≤ p.kinds.length
  k2 : p.kinds.length ≤ 4
  knd : p.kinds.Nodup
  kok : ∀ x ∈ p.kinds, GoodName x ∧ TOk x
  p2 : 2 ≤ p.places.length
  pl : p.places.length ≤ 30
  pnd : p.places.Nodup
  pok : ∀ x ∈ p.places, GoodName x ∧ TOk x
  rl : p.roads.length ≤ 8
  rok : ∀ r ∈ p.roads, LRd p.day p.kinds p.places r
  rnd : (p.roads.map Rd.name).Nodup
  rgood : ∀ r ∈ p.roads, GoodName r.name ∧ TOk r.name
  bl : p.bars.length ≤ 40
  bnd : p.bars.Nodup
  bok : BarsOk p.roads p.bars
section
variable {A : AS} {Q : MP → Prop} {i : Nat} {p : Prt}
theorem evp_pday (h : A[i]? = some (some (.d (prtM K p)))) (q : Q (dI K p.day)) : EvP K (tOp (rIxL K) (tVar i) (tC (.int 0))) A Q := evp_op (evp_var h (evp_int (rok_ixM (i := 0) rfl q)))
theorem evp_pkinds (h : A[i]? = some (some (.d (prtM K p)))) (q : Q (dT K (sds p.kinds))) : EvP K (tOp (rIxL K) (tVar i) (tC (.int 1))) A Q := evp_op (evp_var h (evp_int (rok_ixM (i := 1) rfl q)))
theorem evp_pplacesX (h : A[i]? = some (some (.d (prtM K p)))) (q : Q (tuX K (sds p.places))) : EvP K (tOp (rIxL K) (tVar i) (tC (.int 2))) A Q := evp_op (evp_var h (evp_int (rok_ixM (i := 2) rfl q)))
theorem evp_pplaces (h : A[i]? = some (some (.d (prtM K p)))) (q : Q (dT K (sds p.places))) : EvP K (tOp (rIxL K) (tVar i) (tC (.int 2))) A Q := evp_sub (evp_pplacesX h ⟨_, fun F v h => tuX_t h, q⟩)
theorem evp_proads (h : A[i]? = some (some (.d (prtM K p)))) (q : Q (dT K (p.roads.map Rd.data))) : EvP K (tOp (rIxL K) (tVar i) (tC (.int 3))) A Q := evp_op (evp_var h (evp_int (rok_ixM (i := 3) rfl q)))
theorem evp_pbars (h : A[i]? = some (some (.d (prtM K p)))) (q : Q (dT K (p.bars.map pairD))) : EvP K (tOp (rIxL K) (tVar i) (tC (.int 4))) A Q := evp_op (evp_var h (evp_int (rok_ixM (i := 4) rfl q)))
end
abbrev s_l_parts : Stmt := top 40
abbrev n_l_parts : List Str := ["_law_numbers_here", "_law_at", "_law_day", "_law_kinds", "_law_places", "_law_names_here", "_law_roads", "_law_k"]
abbrev p_l_parts : List Str := ["_law_numbers_here", "_law_at"]
theorem sc_l_parts : FnScope n_l_parts p_l_parts (defScope s_l_parts) := ⟨rfl, rfl, rfl, by decide +kernel, rfl, by decide +kernel, by decide +kernel⟩
def spPrt (K : PySem.W.Frag) : Sp := SpQ (fun i : INum => [dL K (zds i.ns), dI K 0]) fun i m => ∃ p, m = prtM K p ∧ PrtOk p
theorem ok_prt {f : Addr} {fd : FuncData} (Fn : L2.Fun K "_law_parts" "_law_parts" s_l_parts f fd) (T : Txt K mg CM CN CA) (c_l_names : C8.Cal P w K mg base 1 "_law_names" (spNms K) []) (c_l_road : C8.Cal P w K mg base 2 "_law_road" (spRdL K) []) (c_l_bars : C8.Cal P w K mg base 1 "_law_bars" (spBarL K) []) :
    FnOk P w K mg base CX0 3 f fd p_l_parts (spPrt K) := by
  refine fun_okQ Fn sc_l_parts (fun i => rfl) fun cdv A outer s H E hr => ?_
  refine ⟨_, (pss_cons (ps_set (i := 2) sc_l_parts.nd rfl (Or.inl rfl) (pe_ix ix_tup (pe_tup (pa_cons (pe_op op_add pe_int (pe_op op_mod (pe_callTy call_intA (by rfl) T.b_int PyProof.Rows.boot_int (pa_cons (pe_ix ix_list (pv 0) (pv 1) (fun _ _ => rfl)) pa_nil)) pe_int)) (pa_cons pe_int (pa_cons pe_int (pa_cons (pe_op op_add pe_int (pe_op op_mod (pe_callTy call_intA (by rfl) T.b_int PyProof.Rows.boot_int (pa_cons (pe_ix ix_list (pv 0) (pv 1) (fun _ _ => rfl)) pa_nil)) pe_int)) pa_nil))))) (pe_op op_mod (pe_callTy call_intA (by rfl) T.b_int PyProof.Rows.boot_int (pa_cons (pe_ix ix_list (pv 0) (pe_op op_add (pv 1) pe_int) (fun _ _ => rfl)) pa_nil)) pe_int) (fun _ _ => rfl)))
      (pss_cons (ps_set (i := 3) sc_l_parts.nd rfl (Or.inl rfl) (pe_callTy call_tupA (by rfl) T.b_tuple PyProof.Rows.boot_tuple (pa_cons (pe_callB cr_sortedS (by rfl) T.b_sorted PyProof.Rows.boot_sorted (pa_cons (C8.pe_c c_l_names hr (by decide) (by rfl) (pa_cons (pe_ix ix_list (pv 0) (pe_op op_add (pv 1) pe_int) (fun _ _ => rfl)) (pa_cons (pe_op op_add pe_int (pe_op op_mod (pe_callTy call_intA (by rfl) T.b_int PyProof.Rows.boot_int (pa_cons (pe_ix ix_list (pv 0) (pe_op op_add (pv 1) pe_int) (fun _ _ => rfl)) pa_nil)) pe_int)) pa_nil))) pa_nil)) pa_nil)))
      (pss_cons (ps_set (i := 4) sc_l_parts.nd rfl (Or.inl rfl) (pe_callTy call_tupX (by rfl) T.b_tuple PyProof.Rows.boot_tuple (pa_cons (pe_callB cr_sortedS (by rfl) T.b_sorted PyProof.Rows.boot_sorted (pa_cons (C8.pe_c c_l_names hr (by decide) (by rfl) (pa_cons (pe_ix ix_list (pv 0) (pe_op op_add (pv 1) pe_int) (fun _ _ => rfl)) (pa_cons (pe_op op_add pe_int (pe_op op_mod (pe_callTy call_intA (by rfl) T.b_int PyProof.Rows.boot_int (pa_cons (pe_ix ix_list (pv 0) (pe_op op_add (pv 1) pe_int) (fun _ _ => rfl)) pa_nil)) pe_int)) pa_nil))) pa_nil)) pa_nil)))
      (pss_cons (ps_set (i := 5) sc_l_parts.nd rfl (Or.inl rfl) (C8.pe_c c_l_names hr (by decide) (by rfl) (pa_cons (pe_ix ix_list (pv 0) (pe_op op_add (pv 1) pe_int) (fun _ _ => rfl)) (pa_cons pe_int pa_nil))))
      (pss_cons (ps_set (i := 6) sc_l_parts.nd rfl (Or.inl rfl) (pe_lst pa_nil))
      (pss_cons (ps_for PassesOwn.never rfl (pi_range1 (by rfl) T.b_range (pa_cons (pe_op op_add pe_int (pe_op op_mod (pe_callTy call_intA (by rfl) T.b_int PyProof.Rows.boot_int (pa_cons (pe_ix ix_list (pv 0) (pe_op op_add (pv 1) pe_int) (fun _ _ => rfl)) pa_nil)) pe_int)) pa_nil)) (pg_name (i := 7) sc_l_parts.nd rfl (Or.inl rfl)) (pss_one (ps_expr (pe_bm PySem.F.plainAttrs_list PySem.F.slot_list_append PySem.F.type_list_append mt_append (pv 6) (pa_cons (C8.pe_c c_l_road hr (by decide) (by rfl) (pa_cons (pv 0) (pa_cons (pe_op op_add (pe_op op_add (pv 1) pe_int) (pe_op op_mul pe_int (pv 7))) (pa_cons (pe_ix ix_list (pv 5) (pv 7) (fun _ _ => rfl)) (pa_cons (pv 2) (pa_cons (pv 3) (pa_cons (pv 4) pa_nil))))))) pa_nil)))))
      (pss_cons (ps_set (i := 6) sc_l_parts.nd rfl (Or.inl rfl) (pe_callTy call_tupA (by rfl) T.b_tuple PyProof.Rows.boot_tuple (pa_cons (pe_callB cr_sortTT (by rfl) T.b_sorted PyProof.Rows.boot_sorted (pa_cons (pv 6) pa_nil)) pa_nil)))
      (pss_one (ps_ret (pe_lst (pa_cons (pv 2) (pa_cons (pv 3) (pa_cons (pv 4) (pa_cons (pv 6) (pa_cons (C8.pe_c c_l_bars hr (by decide) (by rfl) (pa_cons (pv 0) (pa_cons (pe_op op_add (pv 1) pe_int) (pa_cons (pv 6) pa_nil)))) pa_nil))))))))))))))), fun i => ?_⟩
  obtain ⟨ns, hn⟩ := i
  show ASt K _ [some (.d (dL K (zds ns))), some (.d (dI K 0)), none, none, none, none, none, none] _
  have num : ∀ {A : AS} {Q : MP → Prop} (c : Nat), c < 170 → A[0]? = some (some (.d (dL K (zds ns)))) → A[1]? = some (some (.d (dI K 0))) → (∀ v, 0 ≤ v → v ≤ 1008 → Q (dI K v)) → EvP K (tOp (rIxL K) (tVar 0) (tOp (rI0 fun i j => .int (i + j)) (tVar 1) (tC (.int (c : Int))))) A Q := fun {A Q} c hc h0 h1 q =>
    evp_num h0 hn (evp_op (evp_var h1 (evp_int (rok_i ⟨c, by rw [Int.zero_add], hc⟩)))) q
  have numI : ∀ {A : AS} {Q : MP → Prop} (c : Nat), c < 170 → A[0]? = some (some (.d (dL K (zds ns)))) → A[1]? = some (some (.d (dI K 0))) → (∀ v, 0 ≤ v → v ≤ 1008 → Q (dI K v)) → EvP K (tCB rInt1 (tCons (tOp (rIxL K) (tVar 0) (tOp (rI0 fun i j => .int (i + j)) (tVar 1) (tC (.int (c : Int))))) tNil)) A Q := fun {A Q} c hc h0 h1 q =>
    evp_cb (eva_1 (num c hc h0 h1 fun v a b => cok_int (q v a b)))
  have num0 : ∀ {A : AS} {Q : MP → Prop}, A[0]? = some (some (.d (dL K (zds ns)))) → A[1]? = some (some (.d (dI K 0))) → (∀ v, 0 ≤ v → v ≤ 1008 → Q (dI K v)) → EvP K (tCB rInt1 (tCons (tOp (rIxL K) (tVar 0) (tVar 1)) tNil)) A Q := fun {A Q} h0 h1 q =>
    evp_numI h0 hn (evp_var h1 ⟨0, rfl, by decide⟩) q
  -- the day
  refine ast_seq (ast_asg (evp_op (evp_tup (eva_cons (evp_op (evp_int (evp_op (num0 rfl rfl fun a a0 a1 => evp_int (rok_ic (by decide) (rok_i (eva_cons (evp_int (eva_cons (evp_int (eva_1 (evp_op (evp_int (evp_op (num0 rfl rfl fun b b0 b1 => evp_int (rok_ic (by decide) (rok_i ⟨[.int (1 + a % 24), .int 24, .int 1440, .int (1 + b % 24)], rfl, by simp, evp_op (numI 1 (by decide) rfl rfl fun c c0 c1 => evp_int (rok_ic (by decide) ?_))⟩)))))))))))))))))))))
  have hd : ∃ d : Int, atI [PyData.int (1 + a % 24), .int 24, .int 1440, .int (1 + b % 24)] (c % 4) = some (.int d) ∧ 1 ≤ d ∧ d ≤ 1440 := by
    have : c % 4 = 0 ∨ c % 4 = 1 ∨ c % 4 = 2 ∨ c % 4 = 3 := by omega
    rcases this with e | e | e | e <;> rw [e]
    · exact ⟨_, rfl, by omega, by omega⟩
    · exact ⟨24, rfl, by decide, by decide⟩
    · exact ⟨1440, rfl, by decide, by decide⟩
    · exact ⟨_, rfl, by omega, by omega⟩
  obtain ⟨day, eday, d1, d2⟩ := hd
  refine rok_ixT eday ?_
  -- the kinds
  refine ast_seq (ast_asg (evp_cb (eva_1 (evp_cb (eva_1 (evp_callQ (eva_cons (num 2 (by decide) rfl rfl fun a a0 a1 => eva_1 (evp_op (evp_int (evp_op (numI 3 (by decide) rfl rfl fun b b0 b1 => evp_int (rok_ic (by decide) (rok_i ⟨⟨(a, (1 + b % 2).toNat), a0, by show (1 + b % 2).toNat ≤ 8; omega⟩, ?_, fun m hm => ?_⟩))))))))))))))
  · show [_, dI K _] = [_, dI K _]
    rw [Int.toNat_of_nonneg (by omega)]
  obtain ⟨ks0, rfl, hks0⟩ := hm
  have kl0 : ks0.length = (1 + b % 2).toNat := hks0.len
  refine cok_sortS (by omega) fun ks hks => cok_tupL ?_
  have kl : 1 ≤ ks.length ∧ ks.length ≤ 4 := by rw [hks.length_eq]; omega
  -- the places
  refine ast_seq (ast_asg (evp_cb (eva_1 (evp_cb (eva_1 (evp_callQ (eva_cons (num 4 (by decide) rfl rfl fun a a0 a1 => eva_1 (evp_op (evp_int (evp_op (numI 5 (by decide) rfl rfl fun b b0 b1 => evp_int (rok_ic (by decide) (rok_i ⟨⟨(a, (2 + b % 4).toNat), a0, by show (2 + b % 4).toNat ≤ 8; omega⟩, ?_, fun m hm => ?_⟩))))))))))))))
  · show [_, dI K _] = [_, dI K _]
    rw [Int.toNat_of_nonneg (by omega)]
  obtain ⟨ps0, rfl, hps0⟩ := hm
  have pl0 : ps0.length = (2 + b % 4).toNat := hps0.len
  refine cok_sortS (by omega) fun ps hps => cok_tupX ?_
  have pl : 2 ≤ ps.length ∧ ps.length ≤ 30 := by rw [hps.length_eq]; omega
  have pne : ps ≠ [] := fun e => by rw [e] at pl; exact absurd pl.1 (by decide)
  -- the names
  refine ast_seq (ast_asg (evp_callQ (eva_cons (num 6 (by decide) rfl rfl fun a a0 a1 => eva_1 (evp_int ⟨⟨(a, 8), a0, Nat.le_refl _⟩, rfl, fun m hm => ?_⟩)))))
  obtain ⟨xs, rfl, hxs⟩ := hm
  have hxl : xs.length = 8 := hxs.len
  refine ast_seq (ast_asgN (evn_lst (eva_nil ⟨[], rfl, by simp, ?_⟩)))
  refine ast_seq (ast_for (evi_rng (eva_1 (evp_op (evp_int (evp_op (numI 7 (by decide) rfl rfl fun a a0 a1 => evp_int (rok_ic (by decide) (rok_i ⟨_, rfl, by omega, by omega, ?_⟩)))))))))
  have hcnt : (1 + a % 8).toNat ≤ 8 := by omega
  generalize (1 + a % 8).toNat = cnt at hcnt
  refine ⟨fun i A' => ∃ (rs : List Rd) (y : Option Sl), rs.length = i ∧ rs.map Rd.name = xs.take i ∧ (∀ r ∈ rs, LRd day ks ps r) ∧ A' = [some (.d (dL K (zds ns))), some (.d (dI K 0)), some (.d (dI K day)), some (.d (dT K (sds ks))), some (.d (tuX K (sds ps))), some (.d (dL K (sds xs))), some (.own (.lst (rs.map Rd.data))), y], ⟨[], none, rfl, rfl, (fun r hr => by cases hr), rfl⟩, ?_, ?_⟩
  · rintro i m A' hm' ⟨rs, y, hl, hnm, hok, rfl⟩
    obtain ⟨hi, rfl⟩ := rng_at hm'
    obtain ⟨x, hx⟩ : ∃ x, xs[i]? = some x := ⟨_, List.getElem?_eq_getElem (by omega)⟩
    have hrl : (rs.map Rd.data).length = rs.length := List.length_map _
    refine as_name (ast_append (i := 6) rfl (by omega) (evp_callQ (eva_cons (evp_var rfl (eva_cons (evp_op (evp_op (evp_var rfl (evp_int (rok_i (evp_op (evp_int (evp_var rfl (rok_ic (cmul_l (by decide)) (rok_i (eva_cons (evp_op (evp_var rfl (evp_var rfl (rok_ixL (sds_at rfl hx) (eva_cons (evp_var rfl (eva_cons (evp_var rfl (eva_1 (evp_sub (evp_var rfl ⟨dT K (sds ps), fun F v h => tuX_t h, ⟨ns, hn, 8 + 10 * i, by omega, x, day, ks, by omega, ps, pne⟩, ?_, fun m hm => ?_⟩)))))))))))))))))))))))))))
    · show [_, dI K _, _, _, _, _] = [_, dI K _, _, _, _, _]
      rw [show (0 + 8 + 10 * (i : Int)) = ((8 + 10 * i : Nat) : Int) by omega]
      rfl
    obtain ⟨r, rfl, hrn, hr'⟩ := hm
    refine ⟨r.data, rfl, rs ++ [r], _, ?_, ?_, fun q hq => ?_, by rw [List.map_append]; rfl⟩
    · rw [List.length_append, List.length_singleton, hl]
    · rw [List.map_append, hnm, List.take_add_one, hx]
      show xs.take i ++ [r.name] = xs.take i ++ [x]
      rw [hrn]
    · rcases List.mem_append.mp hq with hq | hq
      · exact hok q hq
      · rw [List.mem_singleton] at hq
        exact hq ▸ hr'
  · rintro A' ⟨rs, y, hl, hnm, hok, rfl⟩
    rw [List.length_map, List.length_range] at hl hnm
    have hnd : (rs.map Rd.name).Nodup := by
      rw [hnm]
      exact List.Pairwise.sublist (List.take_sublist _ _) hxs.nd
    refine ast_freeze (i := 6) rfl (ast_seq (ast_asg (evp_cb (eva_1 (evp_cb (eva_v1 rfl (cok_sortTT (fun d hd => ?_) ?_ fun es hes => ?_)))))))
    · obtain ⟨r, _, rfl⟩ := List.mem_map.mp hd
      exact ⟨_, _, _, rfl⟩
    · rw [List.map_map]
      have : (rs.map fun r => (r.name, r.start)).Nodup := by
        refine List.Pairwise.map _ (R := fun a b : Rd => a.name ≠ b.name) (fun a b h e => h (by injection e)) ?_
        exact List.pairwise_map.mp hnd
      exact this
    obtain ⟨qs, hqs, rfl⟩ := perm_map_inv (f := Rd.data) hes rs rfl
    have hqn : (qs.map Rd.name).Nodup := ((hqs.map Rd.name).nodup_iff).mpr hnd
    have hql : qs.length ≤ 8 := by rw [hqs.length_eq]; omega
    refine cok_tupL (ast_ret (evp_lsM (eva_cons (evp_var rfl (eva_cons (evp_var rfl (eva_cons (evp_var rfl (eva_cons (evp_var rfl (eva_1 (evp_callQ (eva_cons (evp_var rfl (eva_cons (evp_op (evp_var rfl (evp_int (rok_i (eva_v1 rfl ⟨⟨ns, hn, 90, by decide, qs, hql, hqn⟩, rfl, fun m hm => ?_⟩))))))))))))))))))))
    obtain ⟨bs, rfl, b1, b2, b3⟩ := hm
    refine ⟨by simp, ⟨day, ks, ps, qs, bs⟩, rfl, d1, d2, kl.1, kl.2, hks.nodup_iff.mpr hks0.nd, fun x hx => hks0.good x (hks.mem_iff.mp hx), pl.1, pl.2, hps.nodup_iff.mpr hps0.nd, fun x hx => hps0.good x (hps.mem_iff.mp hx), hql, fun r hr => hok r (hqs.mem_iff.mp hr), hqn, fun r hr => hxs.good _ ?_, b1, b2, b3⟩
    have h1 : r.name ∈ rs.map Rd.name := List.mem_map_of_mem (hqs.mem_iff.mp hr)
    rw [hnm] at h1
    exact List.mem_of_mem_take h1
/-! ### _law_made -/
abbrev s_l_made : Stmt := top 42
abbrev n_l_made : List Str := ["_law_parts_here"]
abbrev p_l_made : List Str := ["_law_parts_here"]
theorem sc_l_made : FnScope n_l_made p_l_made (defScope s_l_made) := ⟨rfl, rfl, rfl, by decide +kernel, rfl, by decide +kernel, by decide +kernel⟩
def Prt.toMap (p : Prt) (ok : PrtOk p) : IMap := ⟨p.day, p.kinds, p.places, p.roads, p.bars, ok.d1, ok.d2, ok.pl, ok.pnd, ok.pok, ok.k1, ok.k2, ok.knd, ok.kok, Nat.le_trans ok.rl (by decide),
  fun r hr => ⟨(ok.rgood r hr).1, (ok.rok r hr).start, (ok.rok r hr).fin, (ok.rok r hr).min1, (ok.rok r hr).min2, List.Pairwise.sublist (ok.rok r hr).sub ok.knd, fun k hk => (ok.rok r hr).sub.subset hk, fun k hk => (ok.kok k ((ok.rok r hr).sub.subset hk)).2, Nat.le_trans (ok.rok r hr).sub.length_le (Nat.le_trans ok.k2 (by decide)), (ok.rok r hr).hours⟩,
  ok.rnd, fun r hr => (ok.rgood r hr).2, ok.bl, ok.bnd, ok.bok⟩
structure IPrt where
  p : Prt
  ok : PrtOk p
def mapKs : List Str := ["day", "kinds", "places", "roads", "bars"]
def spMade (K : PySem.W.Frag) (CM : Addr) : Sp := SpQ (fun i : IPrt => [prtM K i.p]) fun i m => ∃ c, m = chM K CM c ∧ MapOk (i.p.toMap i.ok) c
theorem ok_made {f : Addr} {fd : FuncData} (Fn : L2.Fun K "_law_made" "_law_made" s_l_made f fd) (T : Txt K mg CM CN CA) (mk_Map : MakN P w K mg base 4 "Map" CM mapKs (spMapI K CM) (fun xs us => xs ++ us)) : FnOk P w K mg base CX0 6 f fd p_l_made (spMade K CM) := by
  refine fun_okQ Fn sc_l_made (fun i => rfl) fun cdv A outer s H E hr => ?_
  refine ⟨_, (pss_one (ps_ret (mk_Map.pe hr (by decide) (by rfl) (pk_cons (pe_ix ix_list (pv 0) pe_int (fun _ _ => rfl)) (pk_cons (pe_ix ix_list (pv 0) pe_int (fun _ _ => rfl)) (pk_cons (pe_ix ix_list (pv 0) pe_int (fun _ _ => rfl)) (pk_cons (pe_ix ix_list (pv 0) pe_int (fun _ _ => rfl)) (pk_cons (pe_ix ix_list (pv 0) pe_int (fun _ _ => rfl)) pk_nil)))))))), fun i => ?_⟩
  obtain ⟨p, ok⟩ := i
  show ASt K _ [some (.d (prtM K p))] _
  refine ast_ret (evp_makekQ (fun x us _ => rfl) (eva_cons (evp_pday rfl (eva_cons (evp_pkinds rfl (eva_cons (evp_pplaces rfl (eva_cons (evp_proads rfl (eva_1 (evp_pbars rfl ⟨rfl, p.toMap ok, rfl, fun fs hfs => ?_⟩)))))))))))
  obtain ⟨c, rfl, hc⟩ := hfs
  exact ⟨c, rfl, hc⟩
/-! ### _law_open -/
abbrev s_l_open : Stmt := top 43
abbrev n_l_open : List Str := ["_law_parts_here", "_law_kind", "_law_road_here"]
abbrev p_l_open : List Str := ["_law_parts_here", "_law_kind"]
theorem sc_l_open : FnScope n_l_open p_l_open (defScope s_l_open) := ⟨rfl, rfl, rfl, by decide +kernel, rfl, by decide +kernel, by decide +kernel⟩
def Prt.open_ (p : Prt) (kind : Str) : List Rd := p.roads.filter fun r => r.open_ kind
def spOpn (K : PySem.W.Frag) : Sp := SpQ (fun i : IPrt × Str => [prtM K i.1.p, dS K i.2]) fun i m => m = dL K ((i.1.p.open_ i.2).map Rd.data)
theorem ok_opn {f : Addr} {fd : FuncData} (Fn : L2.Fun K "_law_open" "_law_open" s_l_open f fd) (T : Txt K mg CM CN CA) : FnOk P w K mg base CX0 1 f fd p_l_open (spOpn K) := by
  refine fun_okQ Fn sc_l_open (fun i => rfl) fun cdv A outer s H E hr => ?_
  have hu64 := hu64_of hr
  refine ⟨_, (pss_one (ps_ret (pe_lc rfl sc_l_open.nd (pi_tup (pe_ix ix_list (pv 0) pe_int (fun _ _ => rfl))) (blkOk_by (own := [("_law_road_here", 2)]) (N := n_l_open) (sc := defScope s_l_open) (by decide +kernel)) (fun _ _ _ _ _ => (pg_name (i := 2) sc_l_open.nd rfl (Or.inl rfl))) (fun _ _ _ _ _ => (pts_one (PW.pt (pw_and (pt_cmpR (show OpR _ _ (rIn K false) from op_in_seq) (pv 1) (pe_ix (show IxR _ (rIxT K) from ix_tup) (pv 2) pe_int (fun _ _ => rfl)) (by with_unfolding_all rfl)) (pw_and1 (pt_cmpR (show OpR _ _ (rNeD K) from (op_neD hu64)) (pe_ix (show IxR _ (rIxT K) from ix_tup) (pv 2) pe_int (fun _ _ => rfl)) (pe_tup pa_nil) (nomark _))))))) (fun _ _ _ _ _ => (pv 2))))), fun i => ?_⟩
  obtain ⟨⟨p, ok⟩, kind⟩ := i
  show ASt K _ [some (.d (prtM K p)), some (.d (dS K kind)), none] _
  refine ast_ret (evn_p (evn_fm (l := p.roads) (enc := fun r => dat K r.data) (p := fun r => r.open_ kind) (f := fun r => r.data) (by simp) (by have := ok.rl; omega) ?_ ?_ ?_ ?_))
  · exact evi_tup (evp_proads rfl ⟨_, rfl, by rw [List.map_map]; rfl⟩)
  · intro r hr
    refine evt_and (evt_test (evp_op (evp_var rfl (evp_op (evp_var rfl (evp_int (rok_ixT (d := .tuple (sds r.kinds)) rfl (rok_inT ⟨_, rfl, ?_⟩))))))))
    by_cases hk : kind ∈ r.kinds
    · rw [decide_eq_true hk, if_pos rfl]
      refine evt_test (evp_op (evp_op (evp_var rfl (evp_int (rok_ixT (d := hoursD r.hours) rfl (evp_tup (eva_nil ⟨[], rfl, by decide, rok_neD ((sh_hours _).shaped (by decide)) (sh_nil.shaped (by decide)) ⟨_, rfl, ?_⟩⟩)))))))
      rw [hours_eqv]
      unfold Rd.open_
      rw [decide_eq_true hk]
      rfl
    · rw [decide_eq_false hk, if_neg (by decide)]
      unfold Rd.open_
      rw [decide_eq_false hk]
      rfl
  · exact fun r hr _ => evp_var rfl rfl
  · rfl
/-! ### _law_follows -/
abbrev s_l_follows : Stmt := top 44
abbrev n_l_follows : List Str := ["_law_parts_here", "_law_one", "_law_other"]
abbrev p_l_follows : List Str := ["_law_parts_here", "_law_one", "_law_other"]
theorem sc_l_follows : FnScope n_l_follows p_l_follows (defScope s_l_follows) := ⟨rfl, rfl, rfl, by decide +kernel, rfl, by decide +kernel, by decide +kernel⟩
def Prt.fol (p : Prt) (r q : Rd) : Bool := decide (r.fin = q.start) && !decide ((r.name, q.name) ∈ p.bars)
structure IFlw where
  p : Prt
  ok : PrtOk p
  r : Rd
  q : Rd
  hr : r ∈ p.roads
  hq : q ∈ p.roads
theorem PrtOk.btok {p : Prt} (ok : PrtOk p) : ∀ b ∈ p.bars, TOk b.1 ∧ TOk b.2 := fun b hb => by
  obtain ⟨r, hr, q, hq, e1, e2, _⟩ := ok.bok b hb
  exact ⟨e1 ▸ (ok.rgood r hr).2, e2 ▸ (ok.rgood q hq).2⟩
def spFlw (K : PySem.W.Frag) : Sp := SpQ (fun i : IFlw => [prtM K i.p, dat K i.r.data, dat K i.q.data]) fun i m => m = dB K (i.p.fol i.r i.q)
theorem ok_flw {f : Addr} {fd : FuncData} (Fn : L2.Fun K "_law_follows" "_law_follows" s_l_follows f fd) (T : Txt K mg CM CN CA) : FnOk P w K mg base CX0 1 f fd p_l_follows (spFlw K) := by
  refine fun_okQ Fn sc_l_follows (fun i => rfl) fun cdv A outer s H E hr => ?_
  have hu65 := hu65_of hr
  refine ⟨_, (pss_one (ps_ret (pe_and (pe_cmpR op_eq (pe_ix ix_tup (pv 1) pe_int (fun _ _ => rfl)) (pe_ix ix_tup (pv 2) pe_int (fun _ _ => rfl)) (nomark _)) (pe_one (pe_cmpR (op_niDT hu65) (pe_tup (pa_cons (pe_ix ix_tup (pv 1) pe_int (fun _ _ => rfl)) (pa_cons (pe_ix ix_tup (pv 2) pe_int (fun _ _ => rfl)) pa_nil))) (pe_ix ix_list (pv 0) pe_int (fun _ _ => rfl)) (by with_unfolding_all rfl)))))), fun i => ?_⟩
  obtain ⟨p, ok, r, q, hrm, hqm⟩ := i
  show ASt K _ [some (.d (prtM K p)), some (.d (dat K r.data)), some (.d (dat K q.data))] _
  refine ast_ret (evp_andV (evp_op (evp_op (evp_var rfl (evp_int (rok_ixT (d := .str r.fin) rfl (evp_op (evp_var rfl (evp_int (rok_ixT (d := .str q.start) rfl (rok_eqS ⟨_, rfl, ?_⟩)))))))))))
  by_cases h : r.fin = q.start
  · rw [decide_eq_true h, if_pos rfl]
    refine evp_op (evp_tup (eva_cons (evp_op (evp_var rfl (evp_int (rok_ixT (d := .str r.name) rfl (eva_1 (evp_op (evp_var rfl (evp_int (rok_ixT (d := .str q.name) rfl ⟨[.str r.name, .str q.name], rfl, by simp, evp_pbars rfl ?_⟩)))))))))))
    refine rok_niDT (d := pairD (r.name, q.name)) ((sh_pair (p := (r.name, q.name)) (ok.rgood r hrm).2 (ok.rgood q hqm).2).shaped (by decide)) ((sh_pairs ok.btok).shaped (by decide)) ?_
    rw [any_pair]
    show _ = dB K (p.fol r q)
    unfold Prt.fol
    rw [decide_eq_true h]
    rfl
  · rw [decide_eq_false h, if_neg (by decide)]
    show _ = dB K (p.fol r q)
    unfold Prt.fol
    rw [decide_eq_false h]
    rfl
/-! ### _law_trip -/
abbrev s_l_trip : Stmt := top 45
abbrev n_l_trip : List Str := ["_law_numbers_here", "_law_at", "_law_parts_here", "_law_kind", "_law_start", "_law_goal", "_law_moment"]
abbrev p_l_trip : List Str := ["_law_numbers_here", "_law_at", "_law_parts_here"]
theorem sc_l_trip : FnScope n_l_trip p_l_trip (defScope s_l_trip) := ⟨rfl, rfl, rfl, by decide +kernel, rfl, by decide +kernel, by decide +kernel⟩
structure ITrp where
  ns : List Int
  hn : Nums 170 ns
  p : Prt
  ok : PrtOk p
def spTrp (K : PySem.W.Frag) : Sp := SpQ (fun i : ITrp => [dL K (zds i.ns), dI K 100, prtM K i.p]) fun i m => ∃ k s g mo, m = dT K [.str k, .str s, .str g, .int mo] ∧ k ∈ i.p.kinds ∧ s ∈ i.p.places ∧ g ∈ i.p.places
theorem ok_trp {f : Addr} {fd : FuncData} (Fn : L2.Fun K "_law_trip" "_law_trip" s_l_trip f fd) (T : Txt K mg CM CN CA) : FnOk P w K mg base CX0 1 f fd p_l_trip (spTrp K) := by
  refine fun_okQ Fn sc_l_trip (fun i => rfl) fun cdv A outer s H E hr => ?_
  refine ⟨_, (pss_cons (ps_set (i := 3) sc_l_trip.nd rfl (Or.inl rfl) (pe_ix ix_tup (pe_ix ix_list (pv 2) pe_int (fun _ _ => rfl)) (pe_op op_mod (pe_callTy call_intA (by rfl) T.b_int PyProof.Rows.boot_int (pa_cons (pe_ix ix_list (pv 0) (pv 1) (fun _ _ => rfl)) pa_nil)) (pe_callB call_lenA (by rfl) T.b_len PySem.boot_len (pa_cons (pe_ix ix_list (pv 2) pe_int (fun _ _ => rfl)) pa_nil))) (fun _ _ => rfl)))
      (pss_cons (ps_set (i := 4) sc_l_trip.nd rfl (Or.inl rfl) (pe_ix ix_tup (pe_ix ix_list (pv 2) pe_int (fun _ _ => rfl)) (pe_op op_mod (pe_callTy call_intA (by rfl) T.b_int PyProof.Rows.boot_int (pa_cons (pe_ix ix_list (pv 0) (pe_op op_add (pv 1) pe_int) (fun _ _ => rfl)) pa_nil)) (pe_callB call_lenA (by rfl) T.b_len PySem.boot_len (pa_cons (pe_ix ix_list (pv 2) pe_int (fun _ _ => rfl)) pa_nil))) (fun _ _ => rfl)))
      (pss_cons (ps_set (i := 5) sc_l_trip.nd rfl (Or.inl rfl) (pe_ix ix_tup (pe_ix ix_list (pv 2) pe_int (fun _ _ => rfl)) (pe_op op_mod (pe_callTy call_intA (by rfl) T.b_int PyProof.Rows.boot_int (pa_cons (pe_ix ix_list (pv 0) (pe_op op_add (pv 1) pe_int) (fun _ _ => rfl)) pa_nil)) (pe_callB call_lenA (by rfl) T.b_len PySem.boot_len (pa_cons (pe_ix ix_list (pv 2) pe_int (fun _ _ => rfl)) pa_nil))) (fun _ _ => rfl)))
      (pss_cons (ps_set (i := 6) sc_l_trip.nd rfl (Or.inl rfl) (pe_op op_mul (pe_callTy call_intA (by rfl) T.b_int PyProof.Rows.boot_int (pa_cons (pe_ix ix_list (pv 0) (pe_op op_add (pv 1) pe_int) (fun _ _ => rfl)) pa_nil)) (pe_ix ix_list (pe_lst (pa_cons pe_int (pa_cons pe_int (pa_cons pe_int (pa_cons pe_int pa_nil))))) (pe_op op_mod (pe_callTy call_intA (by rfl) T.b_int PyProof.Rows.boot_int (pa_cons (pe_ix ix_list (pv 0) (pe_op op_add (pv 1) pe_int) (fun _ _ => rfl)) pa_nil)) pe_int) (fun _ _ => rfl))))
      (pss_one (ps_ret (pe_tup (pa_cons (pv 3) (pa_cons (pv 4) (pa_cons (pv 5) (pa_cons (pv 6) pa_nil))))))))))), fun i => ?_⟩
  obtain ⟨ns, hn, p, ok⟩ := i
  show ASt K _ [some (.d (dL K (zds ns))), some (.d (dI K 100)), some (.d (prtM K p)), none, none, none, none] _
  have kne : p.kinds ≠ [] := fun e => by have := ok.k1; rw [e] at this; exact absurd this (by decide)
  have pne : p.places ≠ [] := fun e => by have := ok.p2; rw [e] at this; exact absurd this (by decide)
  have kl : (sds p.kinds).length = p.kinds.length := List.length_map _
  have pl : (sds p.places).length = p.places.length := List.length_map _
  have k0 : 0 < p.kinds.length := ok.k1
  have p0 : 0 < p.places.length := Nat.lt_of_lt_of_le (by decide) ok.p2
  refine ast_seq (ast_asg (evp_op (evp_pkinds rfl (evp_op (evp_numI rfl hn (evp_var rfl ⟨100, rfl, by decide⟩) fun v v0 v1 => evp_cb (eva_1 (evp_pkinds rfl (cok_lenT (rok_ic (by rw [kl]; omega) ?_)))))))))
  rw [kl]
  obtain ⟨k, hk, ek⟩ := pick_at kne v
  refine rok_ixT ek ?_
  refine ast_seq (ast_asg (evp_op (evp_pplaces rfl (evp_op (evp_numI rfl hn (evp_op (evp_var rfl (evp_int (rok_i ⟨101, rfl, by decide⟩)))) fun v v0 v1 => evp_cb (eva_1 (evp_pplaces rfl (cok_lenT (rok_ic (by rw [pl]; omega) ?_)))))))))
  rw [pl]
  obtain ⟨s1, hs, es⟩ := pick_at pne v
  refine rok_ixT es ?_
  refine ast_seq (ast_asg (evp_op (evp_pplaces rfl (evp_op (evp_numI rfl hn (evp_op (evp_var rfl (evp_int (rok_i ⟨102, rfl, by decide⟩)))) fun v v0 v1 => evp_cb (eva_1 (evp_pplaces rfl (cok_lenT (rok_ic (by rw [pl]; omega) ?_)))))))))
  rw [pl]
  obtain ⟨g1, hg, eg⟩ := pick_at pne v
  refine rok_ixT eg ?_
  refine ast_seq (ast_asg (evp_op (evp_numI rfl hn (evp_op (evp_var rfl (evp_int (rok_i ⟨103, rfl, by decide⟩)))) fun a a0 a1 => evp_op (evn_p (evn_lst (eva_cons (evp_int (eva_cons (evp_int (eva_cons (evp_int (eva_1 (evp_int ⟨[.int 0, .int 1, .int 1, .int 99], rfl, by simp, ?_⟩)))))))))))))
  refine evp_op (evp_numI rfl hn (evp_op (evp_var rfl (evp_int (rok_i ⟨104, rfl, by decide⟩)))) fun b b0 b1 => evp_int (rok_ic (by decide) ?_))
  have hd : ∃ d : Int, atI [PyData.int 0, .int 1, .int 1, .int 99] (b % 4) = some (.int d) := by
    have : b % 4 = 0 ∨ b % 4 = 1 ∨ b % 4 = 2 ∨ b % 4 = 3 := by omega
    rcases this with e | e | e | e <;> rw [e]
    · exact ⟨_, rfl⟩
    · exact ⟨_, rfl⟩
    · exact ⟨_, rfl⟩
    · exact ⟨_, rfl⟩
  obtain ⟨d, ed⟩ := hd
  refine rok_ixL ed (rok_ic (cmul_l (by omega)) ?_)
  exact ast_ret (evp_tup (eva_v4 rfl rfl rfl rfl ⟨[.str k, .str s1, .str g1, .int (a * d)], rfl, by simp, k, s1, g1, _, rfl, hk, hs, hg⟩))
/-! ### _law_apart_trip -/
abbrev s_l_apart_trip : Stmt := top 46
abbrev n_l_apart_trip : List Str := ["_law_numbers_here", "_law_at", "_law_parts_here", "_law_kind", "_law_start", "_law_goal", "_law_moment"]
abbrev p_l_apart_trip : List Str := ["_law_numbers_here", "_law_at", "_law_parts_here"]
theorem sc_l_apart_trip : FnScope n_l_apart_trip p_l_apart_trip (defScope s_l_apart_trip) := ⟨rfl, rfl, rfl, by decide +kernel, rfl, by decide +kernel, by decide +kernel⟩
def spATrp (K : PySem.W.Frag) : Sp := SpQ (fun i : ITrp => [dL K (zds i.ns), dI K 100, prtM K i.p]) fun i m => ∃ k s g, m = dT K [.str k, .str s, .str g] ∧ k ∈ i.p.kinds ∧ s ∈ i.p.places ∧ g ∈ i.p.places ∧ s ≠ g
theorem ok_atrp {f : Addr} {fd : FuncData} (Fn : L2.Fun K "_law_apart_trip" "_law_apart_trip" s_l_apart_trip f fd) (T : Txt K mg CM CN CA) (c_l_trip : C8.Cal P w K mg base 1 "_law_trip" (spTrp K) []) : FnOk P w K mg base CX0 2 f fd p_l_apart_trip (spATrp K) := by
  refine fun_okQ Fn sc_l_apart_trip (fun i => rfl) fun cdv A outer s H E hr => ?_
  refine ⟨_, (pss_cons (ps_asg (C8.pe_c c_l_trip hr (by decide) (by rfl) (pa_cons (pv 0) (pa_cons (pv 1) (pa_cons (pv 2) pa_nil)))) (pg_tup rfl (pgs_cons (pg_name (i := 3) sc_l_apart_trip.nd rfl (Or.inl rfl)) (pgs_cons (pg_name (i := 4) sc_l_apart_trip.nd rfl (Or.inl rfl)) (pgs_cons (pg_name (i := 5) sc_l_apart_trip.nd rfl (Or.inl rfl)) (pgs_cons (pg_name (i := 6) sc_l_apart_trip.nd rfl (Or.inl rfl)) pgs_nil))))))
      (pss_cons (ps_if (pt_cmpR op_eq (pv 4) (pv 5) (nomark _)) (pss_one (ps_set (i := 5) sc_l_apart_trip.nd rfl (Or.inl rfl) (pe_ix ix_tup (pe_ix ix_list (pv 2) pe_int (fun _ _ => rfl)) (pe_op op_mod (pe_op op_add (pe_tx PySem.F.plainAttrs_tuple PySem.F.slot_tuple_index PySem.F.type_tuple_index mt_tix (pe_ix ix_list (pv 2) pe_int (fun _ _ => rfl)) (pa_cons (pv 4) pa_nil)) pe_int) (pe_callB call_lenA (by rfl) T.b_len PySem.boot_len (pa_cons (pe_ix ix_list (pv 2) pe_int (fun _ _ => rfl)) pa_nil))) (fun _ _ => rfl)))) pss_nil)
      (pss_one (ps_ret (pe_tup (pa_cons (pv 3) (pa_cons (pv 4) (pa_cons (pv 5) pa_nil)))))))), fun i => ?_⟩
  obtain ⟨ns, hn, p, ok⟩ := i
  show ASt K _ [some (.d (dL K (zds ns))), some (.d (dI K 100)), some (.d (prtM K p)), none, none, none, none] _
  refine ast_seq (ast_asgG (evp_callQ (eva_v3 rfl rfl rfl ⟨⟨ns, hn, p, ok⟩, rfl, fun m hm => ?_⟩)))
  obtain ⟨k, s1, g1, mo, rfl, hk, hs, hg⟩ := hm
  have hk : k ∈ p.kinds := hk
  have hs : s1 ∈ p.places := hs
  have hg : g1 ∈ p.places := hg
  refine as_tup (ds := [.str k, .str s1, .str g1, .int mo]) rfl rfl (asg_cons (asg_cons (asg_cons (asg_cons (asg_nil ?_)))))
  refine ast_mid (fun A' => ∃ g, g ∈ p.places ∧ s1 ≠ g ∧ A' = [some (.d (dL K (zds ns))), some (.d (dI K 100)), some (.d (prtM K p)), some (.d (dS K k)), some (.d (dS K s1)), some (.d (dS K g)), some (.d (dI K mo))]) ?_ ?_
  · refine ast_if (evt_test (evp_op (evp_var rfl (evp_var rfl (rok_eqS ⟨_, rfl, ?_⟩)))))
    by_cases e : s1 = g1
    · rw [decide_eq_true e, if_pos rfl]
      obtain ⟨j, hj⟩ := List.mem_iff_getElem?.mp hs
      have hjl : j < p.places.length := (List.getElem?_eq_some_iff.mp hj).1
      have pl : (sds p.places).length = p.places.length := List.length_map _
      have p2 := ok.p2
      refine ast_asg (evp_op (evp_pplaces rfl (evp_op (evp_op (evp_tix hj (fun m hm e => ?_) (evp_pplacesX rfl ⟨rfl, eva_v1 rfl ⟨rfl, evp_int (rok_i (evp_cb (eva_1 (evp_pplaces rfl (cok_lenT (rok_ic (by rw [pl]; omega) ?_))))))⟩⟩))))))
      · have := (List.getElem?_inj (List.getElem?_eq_some_iff.mp e).1 ok.pnd).mp (e.trans hj.symm)
        omega
      rw [pl]
      have hq : (((j : Int) + 1) % (p.places.length : Int)) = (((j + 1) % p.places.length : Nat) : Int) := rfl
      have hlt : (j + 1) % p.places.length < p.places.length := Nat.mod_lt _ (by omega)
      refine rok_ixT (sds_at hq (List.getElem?_eq_getElem hlt)) ⟨_, List.getElem_mem hlt, fun e2 => ?_, rfl⟩
      have h1 : p.places[(j + 1) % p.places.length]? = some s1 := by rw [List.getElem?_eq_getElem hlt, ← e2]
      have h2 := (List.getElem?_inj hlt ok.pnd).mp (h1.trans hj.symm)
      by_cases h3 : j + 1 = p.places.length
      · rw [h3, Nat.mod_self] at h2
        omega
      · rw [Nat.mod_eq_of_lt (by omega)] at h2
        omega
    · rw [decide_eq_false e, if_neg (by decide)]
      exact ast_next ⟨g1, hg, e, rfl⟩
  · rintro A' ⟨g, hg, hne, rfl⟩
    exact ast_ret (evp_tup (eva_v3 rfl rfl rfl ⟨[.str k, .str s1, .str g], rfl, by simp, k, s1, g, rfl, hk, hs, hg, hne⟩))
end Wp
/-! The law's drawn walks. -/
namespace Wp
open PySem PySem.Spec PyProof.Rows L2
variable {P : Program} {w : World} {K : PySem.W.Frag} {mg : Str → Option Value} {base : Heap} {CM CN CA : Addr}
def DrawOk (p : Prt) (kind : Str) : Str → Option Rd → List Rd → Prop
  | _, _, [] => True
  | pl, b, r :: rs => (r ∈ p.roads ∧ r.open_ kind = true ∧ r.start = pl ∧ ∀ q, b = some q → p.fol q r = true) ∧ DrawOk p kind r.fin (some r) rs
def endP : Str → List Rd → Str
  | pl, [] => pl
  | _, r :: rs => endP r.fin rs
def endB : Option Rd → List Rd → Option Rd
  | b, [] => b
  | _, r :: rs => endB (some r) rs
def optR : Option Rd → PyData
  | none => .none
  | some r => r.data
theorem DrawOk.snoc {p : Prt} {kind : Str} {r : Rd} : ∀ {rs : List Rd} {pl : Str} {b : Option Rd}, DrawOk p kind pl b rs → r ∈ p.roads → r.open_ kind = true → r.start = endP pl rs → (∀ q, endB b rs = some q → p.fol q r = true) →
    DrawOk p kind pl b (rs ++ [r]) ∧ endP pl (rs ++ [r]) = r.fin ∧ endB b (rs ++ [r]) = some r
  | [], _, _, _, h1, h2, h3, h4 => ⟨⟨⟨h1, h2, h3, h4⟩, trivial⟩, rfl, rfl⟩
  | a :: rs, _, _, ⟨h, k⟩, h1, h2, h3, h4 => by
    obtain ⟨i1, i2, i3⟩ := DrawOk.snoc k h1 h2 h3 h4
    exact ⟨⟨h, i1⟩, i2, i3⟩
theorem DrawOk.mem {p : Prt} {kind : Str} : ∀ {rs : List Rd} {pl : Str} {b : Option Rd}, DrawOk p kind pl b rs → ∀ r ∈ rs, r ∈ p.roads
  | [], _, _, _ => fun r hr => by cases hr
  | a :: rs, _, _, ⟨h, k⟩ => fun r hr => by
    rcases List.mem_cons.mp hr with e | hr
    · exact e ▸ h.1
    · exact DrawOk.mem k r hr
theorem endB_mem : ∀ {rs : List Rd} {b : Option Rd} {q : Rd}, endB b rs = some q → b = some q ∨ q ∈ rs
  | [], _, _, h => .inl h
  | a :: rs, _, _, h => by
    rcases endB_mem (rs := rs) h with e | e
    · injection e with e
      exact .inr (e ▸ List.mem_cons_self)
    · exact .inr (List.mem_cons_of_mem _ e)
theorem pick_rd {xs : List Rd} (h : xs ≠ []) (v : Int) : ∃ x ∈ xs, atI (xs.map Rd.data) (v % (xs.length : Int)) = some x.data := by
  have hl : 0 < xs.length := List.length_pos_iff.mpr h
  have h0 : 0 ≤ v % (xs.length : Int) := Int.emod_nonneg _ (by omega)
  have h1 : v % (xs.length : Int) < xs.length := Int.emod_lt_of_pos _ (by omega)
  have hj : (v % (xs.length : Int)).toNat < xs.length := by omega
  refine ⟨xs[(v % (xs.length : Int)).toNat], List.getElem_mem hj, ?_⟩
  have := atI_nat (l := xs.map Rd.data) (i := (v % (xs.length : Int)).toNat) (c := (xs[(v % (xs.length : Int)).toNat]).data) (by rw [List.getElem?_map, List.getElem?_eq_getElem hj]; rfl)
  rwa [Int.toNat_of_nonneg h0] at this
abbrev s_l_drawn_walk : Stmt := top 47
abbrev n_l_drawn_walk : List Str := ["_law_parts_here", "_law_kind", "_law_start", "_law_numbers_here", "_law_at", "_law_many", "_law_route", "_law_place", "_law_before", "_law_k", "_law_roads", "_law_road_here"]
abbrev p_l_drawn_walk : List Str := ["_law_parts_here", "_law_kind", "_law_start", "_law_numbers_here", "_law_at", "_law_many"]
theorem sc_l_drawn_walk : FnScope n_l_drawn_walk p_l_drawn_walk (defScope s_l_drawn_walk) := ⟨rfl, rfl, rfl, by decide +kernel, rfl, by decide +kernel, by decide +kernel⟩
structure IDrw where
  p : Prt
  ok : PrtOk p
  kind : Str
  start : Str
  ns : List Int
  hn : Nums 170 ns
  at_ : Nat
  hat : at_ + 9 ≤ 170
def spDrw (K : PySem.W.Frag) : Sp := SpQ (fun i : IDrw => [prtM K i.p, dS K i.kind, dS K i.start, dL K (zds i.ns), dI K i.at_, dI K 9]) fun i m => ∃ rs : List Rd, m = dL K (sds (rs.map Rd.name)) ∧ rs.length ≤ 9 ∧ DrawOk i.p i.kind i.start none rs
theorem ok_drw {f : Addr} {fd : FuncData} (Fn : L2.Fun K "_law_drawn_walk" "_law_drawn_walk" s_l_drawn_walk f fd) (T : Txt K mg CM CN CA) (c_l_open : C8.Cal P w K mg base 1 "_law_open" (spOpn K) []) (c_l_follows : C8.Cal P w K mg base 1 "_law_follows" (spFlw K) []) :
    FnOk P w K mg base CX0 2 f fd p_l_drawn_walk (spDrw K) := by
  refine fun_okQ Fn sc_l_drawn_walk (fun i => rfl) fun cdv A outer s H E hr => ?_
  refine ⟨_, (pss_cons (ps_set (i := 6) sc_l_drawn_walk.nd rfl (Or.inl rfl) (pe_lst pa_nil))
      (pss_cons (ps_set (i := 7) sc_l_drawn_walk.nd rfl (Or.inr rfl) (pv 2))
      (pss_cons (ps_set (i := 8) sc_l_drawn_walk.nd rfl (Or.inr rfl) pe_non)
      (pss_cons (ps_for PassesOwn.never rfl (pi_range1 (by rfl) T.b_range (pa_cons (pv 5) pa_nil)) (pg_name (i := 9) sc_l_drawn_walk.nd rfl (Or.inl rfl)) (pss_cons (ps_setLc (i := 10) rfl sc_l_drawn_walk.nd rfl rfl (sw_true rfl rfl rfl (by decide +kernel)) (pi_list (C8.pe_c c_l_open hr (by decide) (by rfl) (pa_cons (pv 0) (pa_cons (pv 1) pa_nil)))) (blkOk_by (own := [("_law_road_here", 11)]) (N := n_l_drawn_walk) (sc := defScope s_l_drawn_walk) (by decide +kernel)) (fun _ _ _ _ _ => (pg_name (i := 11) sc_l_drawn_walk.nd rfl (Or.inl rfl))) (fun _ _ _ _ _ => (pts_one (pt_cmpR op_eq (pe_ix (show IxR _ (rIxT K) from ix_tup) (pv 11) pe_int (fun _ _ => rfl)) (pv 7) (nomark _)))) (fun _ _ _ _ _ => (pv 11)))
      (pss_cons (ps_if (pt_cmpR op_notN1 (pv 8) pe_non (nomark _)) (pss_one (ps_setLc (i := 10) rfl sc_l_drawn_walk.nd rfl rfl (sw_true rfl rfl rfl (by decide +kernel)) (pi_list (pv 10)) (blkOk_by (own := [("_law_road_here", 11)]) (N := n_l_drawn_walk) (sc := defScope s_l_drawn_walk) (by decide +kernel)) (fun _ _ _ _ _ => (pg_name (i := 11) sc_l_drawn_walk.nd rfl (Or.inl rfl))) (fun _ _ _ _ _ => (pts_one (pt_val (C8.pe_c c_l_follows hr (by decide) (by rfl) (pa_cons (pv 0) (pa_cons (pv 8) (pa_cons (pv 11) pa_nil))))))) (fun _ _ _ _ _ => (pv 11)))) pss_nil)
      (pss_one (ps_if (pt_cmpR op_gt (pe_callB call_lenA (by rfl) T.b_len PySem.boot_len (pa_cons (pv 10) pa_nil)) pe_int (nomark _)) (pss_cons (ps_set (i := 8) sc_l_drawn_walk.nd rfl (Or.inr rfl) (pe_ix ix_list (pv 10) (pe_op op_mod (pe_callTy call_intA (by rfl) T.b_int PyProof.Rows.boot_int (pa_cons (pe_ix ix_list (pv 3) (pe_op op_add (pv 4) (pv 9)) (fun _ _ => rfl)) pa_nil)) (pe_callB call_lenA (by rfl) T.b_len PySem.boot_len (pa_cons (pv 10) pa_nil))) (fun _ _ => rfl)))
      (pss_cons (ps_set (i := 7) sc_l_drawn_walk.nd rfl (Or.inr rfl) (pe_ix ix_tup (pv 8) pe_int (fun _ _ => rfl)))
      (pss_one (ps_expr (pe_bm PySem.F.plainAttrs_list PySem.F.slot_list_append PySem.F.type_list_append mt_append (pv 6) (pa_cons (pe_ix ix_tup (pv 8) pe_int (fun _ _ => rfl)) pa_nil)))))) pss_nil)))))
      (pss_one (ps_ret (pv 6))))))), fun i => ?_⟩
  obtain ⟨p, ok, kind, start, ns, hn, at_, hat⟩ := i
  show ASt K _ [some (.d (prtM K p)), some (.d (dS K kind)), some (.d (dS K start)), some (.d (dL K (zds ns))), some (.d (dI K at_)), some (.d (dI K 9)), none, none, none, none, none, none] _
  refine ast_seq (ast_asgN (evn_lst (eva_nil ⟨[], rfl, by simp, ?_⟩)))
  refine ast_seq (ast_asg (evp_var rfl ?_))
  refine ast_seq (ast_asg (evp_non ?_))
  refine ast_seq (ast_for (evi_rng (eva_v1 rfl ⟨9, rfl, by decide, by decide, ?_⟩)))
  refine ⟨fun i A' => ∃ (rs : List Rd) (y z u : Option Sl), rs.length ≤ i ∧ DrawOk p kind start none rs ∧ A' = [some (.d (prtM K p)), some (.d (dS K kind)), some (.d (dS K start)), some (.d (dL K (zds ns))), some (.d (dI K at_)), some (.d (dI K 9)), some (.own (.lst (sds (rs.map Rd.name)))), some (.d (dS K (endP start rs))), some (.d (dat K (optR (endB none rs)))), y, z, u], ⟨[], none, none, none, Nat.le_refl _, trivial, rfl⟩, ?_, ?_⟩
  · rintro i m A' hm' ⟨rs, y, z, u, hl, hd, rfl⟩
    obtain ⟨hi, rfl⟩ := rng_at hm'
    have hi : i < 9 := hi
    have opl : (p.open_ kind).length ≤ p.roads.length := List.length_filter_le _ _
    have opm : ∀ r ∈ p.open_ kind, r ∈ p.roads ∧ r.open_ kind = true := fun r hr => ⟨(List.mem_filter.mp hr).1, (List.mem_filter.mp hr).2⟩
    have rl := ok.rl
    refine as_name ?_
    refine ast_seq (ast_asg (evn_p (evn_fm (l := p.open_ kind) (enc := fun r => dat K r.data) (p := fun r => decide (r.start = endP start rs)) (f := fun r => r.data) (by simp) (by omega) ?_ ?_ ?_ ?_)))
    · exact evi_list (evp_callQ (eva_v2 rfl rfl ⟨(⟨p, ok⟩, kind), rfl, fun m e => ⟨_, e, by rw [List.map_map]; rfl⟩⟩))
    · exact fun r hr => evt_test (evp_op (evp_op (evp_var rfl (evp_int (rok_ixT (d := .str r.start) rfl (evp_var rfl (rok_eqS ⟨_, rfl, rfl⟩)))))))
    · exact fun r hr _ => evp_var rfl rfl
    have m1 : ∀ r ∈ (p.open_ kind).filter (fun r => decide (r.start = endP start rs)), r ∈ p.roads ∧ r.open_ kind = true ∧ r.start = endP start rs := fun r hr => by
      obtain ⟨h1, h2⟩ := List.mem_filter.mp hr
      exact ⟨(opm r h1).1, (opm r h1).2, of_decide_eq_true h2⟩
    have l1 : ((p.open_ kind).filter fun r => decide (r.start = endP start rs)).length ≤ 8 := Nat.le_trans (List.length_filter_le _ _) (by omega)
    generalize (p.open_ kind).filter (fun r => decide (r.start = endP start rs)) = rd1 at m1 l1
    refine ast_mid (fun A' => ∃ (rd : List Rd) (u : Option Sl), rd.length ≤ 8 ∧ (∀ r ∈ rd, r ∈ p.roads ∧ r.open_ kind = true ∧ r.start = endP start rs ∧ ∀ q, endB none rs = some q → p.fol q r = true) ∧ A' = [some (.d (prtM K p)), some (.d (dS K kind)), some (.d (dS K start)), some (.d (dL K (zds ns))), some (.d (dI K at_)), some (.d (dI K 9)), some (.own (.lst (sds (rs.map Rd.name)))), some (.d (dS K (endP start rs))), some (.d (dat K (optR (endB none rs)))), some (.d (dI K (i : Int))), some (.d (dL K (rd.map Rd.data))), u]) ?_ ?_
    · refine ast_if (evt_test (evp_op (evp_var rfl (evp_non (rok_notN rfl ⟨_, rfl, ?_⟩)))))
      cases hb : endB none rs with
      | none =>
        exact ast_next ⟨rd1, _, l1, fun r hr => ⟨(m1 r hr).1, (m1 r hr).2.1, (m1 r hr).2.2, fun q e => nomatch e⟩, rfl⟩
      | some q =>
        have hq : q ∈ p.roads := by
          rcases endB_mem hb with e | e
          · cases e
          · exact hd.mem q e
        refine ast_asg (evn_p (evn_fm (l := rd1) (enc := fun r => dat K r.data) (p := fun r => p.fol q r) (f := fun r => r.data) (by simp) (by omega) ?_ ?_ ?_ ?_))
        · exact evi_list (evp_var rfl ⟨_, rfl, by rw [List.map_map]; rfl⟩)
        · exact fun r hr => evt_B (evp_callQ (eva_v3 rfl rfl rfl ⟨⟨p, ok, q, r, hq, (m1 r hr).1⟩, rfl, fun m e => ⟨_, e, rfl⟩⟩))
        · exact fun r hr _ => evp_var rfl rfl
        · refine ⟨rd1.filter fun r => p.fol q r, _, Nat.le_trans (List.length_filter_le _ _) l1, fun r hr => ?_, rfl⟩
          obtain ⟨h1, h2⟩ := List.mem_filter.mp hr
          exact ⟨(m1 r h1).1, (m1 r h1).2.1, (m1 r h1).2.2, fun q' e => by injection e with e; exact e ▸ h2⟩
    · rintro A' ⟨rd, u, l2, m2, rfl⟩
      have rdl : (rd.map Rd.data).length = rd.length := List.length_map _
      refine ast_if (evt_test (evp_op (evp_cb (eva_v1 rfl (cok_lenL (evp_int (rok_b ⟨_, rfl, ?_⟩)))))))
      rw [rdl]
      by_cases h0 : rd = []
      · subst h0
        rw [decide_eq_false (by decide), if_neg (by decide)]
        exact ast_next ⟨rs, _, _, _, by omega, hd, rfl⟩
      · have hp : 0 < rd.length := List.length_pos_iff.mpr h0
        rw [decide_eq_true (by omega), if_pos rfl]
        refine ast_seq (ast_asg (evp_op (evp_var rfl (evp_op (evp_numI rfl hn (evp_op (evp_var rfl (evp_var rfl (rok_i ⟨at_ + i, rfl, by omega⟩)))) fun v v0 v1 => evp_cb (eva_v1 rfl (cok_lenL (rok_ic (by rw [rdl]; omega) ?_))))))))
        rw [rdl]
        obtain ⟨r, hr, er⟩ := pick_rd h0 v
        refine rok_ixL er ?_
        obtain ⟨r1, r2, r3, r4⟩ := m2 r hr
        obtain ⟨s1, s2, s3⟩ := hd.snoc r1 r2 r3 r4
        refine ast_seq (ast_asg (evp_op (evp_var rfl (evp_int (rok_ixT (d := .str r.fin) rfl ?_)))))
        have hsl : (sds (rs.map Rd.name)).length = rs.length := by unfold sds; rw [List.length_map, List.length_map]
        refine ast_append (i := 6) rfl (by omega) (evp_op (evp_var rfl (evp_int (rok_ixT (d := .str r.name) rfl ⟨_, rfl, rs ++ [r], some (.d (dI K (i : Int))), some (.d (dL K (rd.map Rd.data))), u, ?_, s1, ?_⟩))))
        · rw [List.length_append, List.length_singleton]; omega
        · rw [s2, s3, List.map_append]
          unfold sds
          rw [List.map_append]
          rfl
  · rintro A' ⟨rs, y, z, u, hl, hd, rfl⟩
    exact ast_freeze (i := 6) rfl (ast_ret (evp_var rfl ⟨rs, rfl, hl, hd⟩))
/-! ### _law_ended -/
abbrev s_l_ended : Stmt := top 48
abbrev n_l_ended : List Str := ["_law_parts_here", "_law_route", "_law_goal", "_law_k", "_law_road_here"]
abbrev p_l_ended : List Str := ["_law_parts_here", "_law_route", "_law_goal"]
theorem sc_l_ended : FnScope n_l_ended p_l_ended (defScope s_l_ended) := ⟨rfl, rfl, rfl, by decide +kernel, rfl, by decide +kernel, by decide +kernel⟩
def optLD : Option (List Str) → PyData
  | none => .none
  | some l => .list (sds l)
structure IEnd where
  p : Prt
  ok : PrtOk p
  rs : List Rd
  hl : rs.length ≤ 9
  hm : ∀ r ∈ rs, r ∈ p.roads
  goal : Str
def spEnd (K : PySem.W.Frag) : Sp := SpQ (fun i : IEnd => [prtM K i.p, dL K (sds (i.rs.map Rd.name)), dS K i.goal]) fun i m => ∃ o : Option Nat, m = dat K (optLD (o.map fun k => (i.rs.map Rd.name).take (k + 1))) ∧ ∀ k, o = some k → ∃ r, i.rs[k]? = some r ∧ r.fin = i.goal
theorem ok_end {f : Addr} {fd : FuncData} (Fn : L2.Fun K "_law_ended" "_law_ended" s_l_ended f fd) (T : Txt K mg CM CN CA) : FnOk P w K mg base CX0 1 f fd p_l_ended (spEnd K) := by
  refine fun_okQ Fn sc_l_ended (fun i => rfl) fun cdv A outer s H E hr => ?_
  refine ⟨_, (pss_cons (ps_for PassesOwn.never rfl (pi_range1 (by rfl) T.b_range (pa_cons (pe_callB call_lenA (by rfl) T.b_len PySem.boot_len (pa_cons (pv 1) pa_nil)) pa_nil)) (pg_name (i := 3) sc_l_ended.nd rfl (Or.inr rfl)) (pss_one (ps_if (pt_cmpR op_eq (pe_ix ix_list (pe_lc rfl sc_l_ended.nd (pi_tup (pe_ix ix_list (pv 0) pe_int (fun _ _ => rfl))) (blkOk_by (own := [("_law_road_here", 4)]) (N := n_l_ended) (sc := defScope s_l_ended) (by decide +kernel)) (fun _ _ _ _ _ => (pg_name (i := 4) sc_l_ended.nd rfl (Or.inl rfl))) (fun _ _ _ _ _ => (pts_one (pt_cmpR op_eq (pe_ix (show IxR _ (rIxT K) from ix_tup) (pv 4) pe_int (fun _ _ => rfl)) (pe_ix (show IxR _ (rIxL K) from ix_list) (pv 1) (pv 3) (fun _ _ => rfl)) (nomark _)))) (fun _ _ _ _ _ => (pe_ix (show IxR _ (rIxT K) from ix_tup) (pv 4) pe_int (fun _ _ => rfl)))) pe_int (fun _ _ => rfl)) (pv 2) (nomark _)) (pss_one (ps_ret (pe_slice sl_list (pv 1) po_none (po_some (pe_op op_add (pv 3) pe_int))))) pss_nil)))
      (pss_one (ps_ret pe_non))), fun i => ?_⟩
  obtain ⟨p, ok, rs, hl, hm, goal⟩ := i
  show ASt K _ [some (.d (prtM K p)), some (.d (dL K (sds (rs.map Rd.name)))), some (.d (dS K goal)), none, none] _
  have hsl : (sds (rs.map Rd.name)).length = rs.length := by unfold sds; rw [List.length_map, List.length_map]
  refine ast_seq (ast_for (evi_rng (eva_1 (evp_cb (eva_v1 rfl (cok_lenL ⟨_, rfl, by omega, by omega, ?_⟩))))))
  rw [hsl, Int.toNat_natCast]
  refine ⟨fun i A' => ∃ y, A' = [some (.d (prtM K p)), some (.d (dL K (sds (rs.map Rd.name)))), some (.d (dS K goal)), y, none], ⟨none, rfl⟩, ?_, ?_⟩
  · rintro i m A' hm' ⟨y, rfl⟩
    obtain ⟨hi, rfl⟩ := rng_at hm'
    obtain ⟨r, hr⟩ : ∃ r, rs[i]? = some r := ⟨_, List.getElem?_eq_getElem hi⟩
    have hrp : r ∈ p.roads := hm r (List.mem_of_getElem? hr)
    have hx : (rs.map Rd.name)[i]? = some r.name := by rw [List.getElem?_map, hr]; rfl
    refine as_name (ast_if (evt_test (evp_op (evp_op (evn_p (evn_fm (l := p.roads) (enc := fun q => dat K q.data) (p := fun q => decide (q.name = r.name)) (f := fun q => .str q.fin) (by simp) (by have := ok.rl; omega) ?_ ?_ ?_ ?_))))))
    · exact evi_tup (evp_proads rfl ⟨_, rfl, by rw [List.map_map]; rfl⟩)
    · exact fun q hq => evt_test (evp_op (evp_op (evp_var rfl (evp_int (rok_ixT (d := .str q.name) rfl (evp_op (evp_var rfl (evp_var rfl (rok_ixL (sds_at rfl hx) (rok_eqS ⟨_, rfl, rfl⟩))))))))))
    · exact fun q hq _ => evp_op (evp_var rfl (evp_int (rok_ixT (d := .str q.fin) rfl rfl)))
    have hf : p.roads.filter (fun q => decide (q.name = r.name)) ≠ [] := List.ne_nil_of_mem (List.mem_filter.mpr ⟨hrp, decide_eq_true rfl⟩)
    obtain ⟨q, qs, hq⟩ := List.exists_cons_of_ne_nil hf
    have hqm : q ∈ p.roads.filter (fun q => decide (q.name = r.name)) := by rw [hq]; exact List.mem_cons_self
    obtain ⟨q1, q2⟩ := List.mem_filter.mp hqm
    have q2 : q.name = r.name := of_decide_eq_true q2
    have hqr : q = r := by
      obtain ⟨j1, e1⟩ := List.mem_iff_getElem?.mp q1
      obtain ⟨j2, e2⟩ := List.mem_iff_getElem?.mp hrp
      have h1 : (p.roads.map Rd.name)[j1]? = some r.name := by rw [List.getElem?_map, e1]; exact congrArg some q2
      have h2 : (p.roads.map Rd.name)[j2]? = some r.name := by rw [List.getElem?_map, e2]; rfl
      have := (List.getElem?_inj (List.getElem?_eq_some_iff.mp h1).1 ok.rnd).mp (h1.trans h2.symm)
      subst this
      exact Option.some.inj (e1.symm.trans e2)
    rw [hq]
    refine evp_int (rok_ixL (d := .str q.fin) (atI_nat (i := 0) rfl) (evp_var rfl (rok_eqS ⟨_, rfl, ?_⟩)))
    by_cases hg : q.fin = goal
    · rw [decide_eq_true hg, if_pos rfl]
      refine ast_ret (evp_sl (evp_var rfl (evo_none (evo_some (evp_op (evp_var rfl (evp_int (rok_i ⟨_, rfl, ?_⟩))))))))
      refine sok_listTo (i := i + 1) (by omega) ⟨some i, ?_, fun k e => ?_⟩
      · show _ = dL K (sds _)
        unfold sds
        rw [List.map_take]
        rfl
      · injection e with e
        subst e
        exact ⟨r, hr, hqr ▸ hg⟩
    · rw [decide_eq_false hg, if_neg (by decide)]
      exact ast_next ⟨_, rfl⟩
  · rintro A' ⟨y, rfl⟩
    exact ast_ret (evp_non ⟨none, rfl, fun k e => nomatch e⟩)
end Wp
/-! The chart and the law's parts. -/
namespace Wp
open PySem PySem.Spec PyProof.Rows L2
section
variable {p : Prt} {ok : PrtOk p} {c : Ch} (mk : MapOk (p.toMap ok) c)
include mk
theorem mk_mem {r : Rd} (h : r ∈ p.roads) : fixK c.kinds r ∈ c.roads := mk.roads.mem_iff.mpr (List.mem_map_of_mem h)
theorem mk_names : c.names.Perm (p.roads.map Rd.name) := by
  have h := mk.roads.map Rd.name
  rw [List.map_map] at h
  exact h
theorem mk_nd : c.names.Nodup := (mk_names mk).nodup_iff.mpr ok.rnd
theorem mk_back {r : Rd} (h : r ∈ c.roads) : ∃ q ∈ p.roads, r = fixK c.kinds q := by
  obtain ⟨q, hq, e⟩ := List.mem_map.mp (mk.roads.mem_iff.mp h)
  exact ⟨q, hq, e.symm⟩
theorem mk_ok : c.Ok := by
  refine ⟨mk_nd mk, ?_, fun r hr => ?_, fun r hr => ?_, fun b hb => ?_⟩
  · have := mk.roads.length_eq
    rw [List.length_map] at this
    have e : (p.toMap ok).rs = p.roads := rfl
    rw [e] at this
    have := ok.rl
    omega
  · obtain ⟨q, hq, rfl⟩ := mk_back mk hr
    exact mk.places.mem_iff.mpr (ok.rok q hq).fin
  · obtain ⟨q, hq, rfl⟩ := mk_back mk hr
    exact (ok.rgood q hq).2
  · exact ok.btok b (mk.bars.mem_iff.mp hb)
theorem mk_road {r : Rd} (h : r ∈ p.roads) : c.road? r.name = some (fixK c.kinds r) := road_of (r := fixK c.kinds r) (mk_nd mk) (mk_mem mk h)
theorem mk_usable {kind : Str} {r : Rd} (h : r ∈ p.roads) (ho : r.open_ kind = true) : r.name ∈ c.usable kind := by
  unfold Ch.usable
  refine List.mem_map.mpr ⟨fixK c.kinds r, List.mem_filter.mpr ⟨mk_mem mk h, ?_⟩, rfl⟩
  unfold Rd.open_ at ho ⊢
  obtain ⟨h1, h2⟩ := (Bool.and_eq_true _ _).mp ho
  refine (Bool.and_eq_true _ _).mpr ⟨decide_eq_true ?_, h2⟩
  have hk : kind ∈ r.kinds := of_decide_eq_true h1
  exact List.mem_filter.mpr ⟨mk.kinds.mem_iff.mpr ((ok.rok r h).sub.subset hk), decide_eq_true hk⟩
theorem mk_fol {r q : Rd} (hr : r ∈ p.roads) (hq : q ∈ p.roads) (h : p.fol r q = true) : q.name ∈ c.folls r.name (fixK c.kinds r) := by
  unfold Prt.fol at h
  obtain ⟨h1, h2⟩ := (Bool.and_eq_true _ _).mp h
  have e : r.fin = q.start := of_decide_eq_true h1
  have nb : (r.name, q.name) ∉ p.bars := by simpa using h2
  unfold Ch.folls
  refine List.mem_filter.mpr ⟨?_, ?_⟩
  · unfold Ch.from_
    exact List.mem_map.mpr ⟨fixK c.kinds q, List.mem_filter.mpr ⟨mk_mem mk hq, decide_eq_true e.symm⟩, rfl⟩
  · unfold Ch.follow
    have : (r.name, q.name) ∉ c.bars := fun hb => nb (mk.bars.mem_iff.mp hb)
    rw [decide_eq_false this]
    rfl
/-- a drawn walk that ends is a trail -/
theorem draw_trail {kind goal : Str} : ∀ {rs : List Rd} {pl : Str} {b : Option Rd} {k : Nat} {r : Rd}, DrawOk p kind pl b rs → rs[k]? = some r → r.fin = goal → ∃ r0, rs[0]? = some r0 ∧ r0.start = pl ∧ r0 ∈ p.roads ∧ (∀ q, b = some q → p.fol q r0 = true) ∧ Trail c (c.usable kind) goal r0.name ((rs.map Rd.name).take (k + 1))
  | [], _, _, _, _, _, h, _ => by cases h
  | a :: rs, pl, b, 0, r, ⟨⟨a1, a2, a3, a4⟩, _⟩, h, e => by
    cases h
    exact ⟨a, rfl, a3, a1, a4, .last (mk_usable mk a1 a2) (mk_road mk a1) e⟩
  | a :: rs, pl, b, k + 1, r, ⟨⟨a1, a2, a3, a4⟩, d⟩, h, e => by
    obtain ⟨r0, h0, h1, h2, h3, t⟩ := draw_trail d (k := k) (r := r) h e
    exact ⟨a, rfl, a3, a1, a4, .more (mk_usable mk a1 a2) (mk_road mk a1) (mk_fol mk a1 h2 (h3 a rfl)) t⟩
theorem draw_start {kind start goal : Str} {rs : List Rd} {k : Nat} {r : Rd} (d : DrawOk p kind start none rs) (h : rs[k]? = some r) (e : r.fin = goal) : ∃ x, Trail c (c.usable kind) goal x ((rs.map Rd.name).take (k + 1)) ∧ (c.road? x).map Rd.start = some start := by
  obtain ⟨r0, _, h1, h2, _, t⟩ := draw_trail mk d h e
  exact ⟨r0.name, t, by rw [mk_road mk h2]; exact congrArg some h1⟩
end
theorem trail_sub {c : Ch} {ns : List Str} {goal x : Str} {t : List Str} (h : Trail c ns goal x t) : ∀ y ∈ t, y ∈ ns := by
  induction h with
  | last h _ _ => intro y hy; rw [List.mem_singleton] at hy; exact hy ▸ h
  | more h _ _ _ ih =>
    intro y hy
    rcases List.mem_cons.mp hy with e | hy
    · exact e ▸ h
    · exact ih y hy
theorem trail_hd {c : Ch} {ns : List Str} {goal x : Str} {t : List Str} (h : Trail c ns goal x t) : x ∈ t := by
  cases h <;> exact List.mem_cons_self
theorem no_trail {c : Ch} {ns us : List Str} {start goal : Str} {l : List Str} (w : Way c us start goal l l.length) {x : Str} {t : List Str} (h : Trail c ns goal x t) : (∀ y ∈ t, y ∈ us) → x ∈ l → False := by
  induction h with
  | last _ hr e =>
    intro _ hx
    obtain ⟨j, hj⟩ := List.mem_iff_getElem?.mp hx
    exact (w.done j (List.getElem?_eq_some_iff.mp hj).1 _ hj _ hr).1 e
  | more _ hr hy ht ih =>
    intro hs hx
    obtain ⟨j, hj⟩ := List.mem_iff_getElem?.mp hx
    have hs' : ∀ y ∈ _, y ∈ us := fun y h => hs y (List.mem_cons_of_mem _ h)
    exact ih hs' ((w.done j (List.getElem?_eq_some_iff.mp hj).1 _ hj _ hr).2 _ hy (hs' _ (trail_hd ht)))
theorem no_way {c : Ch} {ns us : List Str} {start goal x : Str} {t : List Str} (w : NoWay c us start goal) (h : Trail c ns goal x t) (hs : (c.road? x).map Rd.start = some start) : ¬ ∀ y ∈ t, y ∈ us := by
  obtain ⟨l, w⟩ := w
  intro hu
  cases hr : c.road? x with
  | none => rw [hr] at hs; cases hs
  | some r =>
    rw [hr] at hs
    have hs : r.start = start := Option.some.inj hs
    exact no_trail w h hu (w.first x (hu x (trail_hd h)) r hr hs)
theorem vital_none {c : Ch} {kind start goal x : Str} {t : List Str} (w : NoWay c (c.avail kind none) start goal) (h : Trail c (c.usable kind) goal x t) (hs : (c.road? x).map Rd.start = some start) : False :=
  no_way w h hs fun y hy => List.mem_filter.mpr ⟨trail_sub h y hy, rfl⟩
theorem vital_some {c : Ch} {kind start goal x v : Str} {t : List Str} (w : NoWay c (c.avail kind (some v)) start goal) (h : Trail c (c.usable kind) goal x t) (hs : (c.road? x).map Rd.start = some start) : v ∈ t :=
  Classical.byContradiction fun hv => no_way w h hs fun y hy => List.mem_filter.mpr ⟨trail_sub h y hy, by
    unfold woIn
    have : y ≠ v := fun e => hv (e ▸ hy)
    simp [this]⟩
/-- the walks that the law has kept hold each a road of the cut -/
structure Kept (cut used : List Str) (n : Nat) : Prop where
  ex : ∃ ys : List Str, ys.Nodup ∧ ys.length = n ∧ ∀ y ∈ ys, y ∈ cut ∧ y ∈ used
theorem Kept.none {cut : List Str} : Kept cut [] 0 := ⟨[], .nil, rfl, fun y hy => by cases hy⟩
theorem Kept.le {cut used : List Str} {n : Nat} (h : Kept cut used n) : n ≤ cut.length := by
  obtain ⟨ys, h1, h2, h3⟩ := h.ex
  rw [← h2]
  exact nodup_len h1 fun y hy => (h3 y hy).1
theorem Kept.add {cut used l : List Str} {n : Nat} (h : Kept cut used n) {y : Str} (hy : y ∈ l) (hc : y ∈ cut) (hu : ∀ x ∈ l, x ∉ used) : Kept cut (used ++ l) (n + 1) := by
  obtain ⟨ys, h1, h2, h3⟩ := h.ex
  have hn : y ∉ ys := fun e => hu y hy (h3 y e).2
  refine ⟨y :: ys, List.nodup_cons.mpr ⟨hn, h1⟩, by rw [List.length_cons, h2], fun z hz => ?_⟩
  rcases List.mem_cons.mp hz with e | hz
  · exact e ▸ ⟨hc, List.mem_append.mpr (.inr hy)⟩
  · exact ⟨(h3 z hz).1, List.mem_append.mpr (.inl (h3 z hz).2)⟩
end Wp
/-! The law. -/
namespace Wp
open PySem PySem.Spec PyProof.Rows L2
variable {P : Program} {w : World} {K : PySem.W.Frag} {mg : Str → Option Value} {base : Heap} {CM CN CA : Addr}
theorem any_map {α : Type} (l : List α) (f : α → Bool) : (l.map f).any id = l.any f := by
  rw [List.any_map]
  rfl
abbrev s_law : Stmt := top 49
abbrev n_law : List Str := ["_law_script", "_law_numbers_here", "_law_parts_here", "_law_kind", "_law_start", "_law_goal", "_law_chart", "_law_found", "_law_vital", "_law_used", "_law_count", "_law_k", "_law_route", "_law_name"]
abbrev p_law : List Str := ["_law_script"]
theorem sc_law : FnScope n_law p_law (defScope s_law) := ⟨rfl, rfl, rfl, by decide +kernel, rfl, by decide +kernel, by decide +kernel⟩
def spLaw (K : PySem.W.Frag) : Sp := SpQ (fun i : { ns : List Int // ns.length ≤ 63 } => [scr K i.1]) fun i m => m = dB K true
theorem ok_law {f : Addr} {fd : FuncData} (Fn : L2.Fun K "law" "law" s_law f fd) (T : Txt K mg CM CN CA) (c_l_numbers : C8.Cal P w K mg base 2 "_law_numbers" (spNumbers K) []) (c_l_parts : C8.Cal P w K mg base 3 "_law_parts" (spPrt K) []) (c_l_apart_trip : C8.Cal P w K mg base 2 "_law_apart_trip" (spATrp K) [])
    (c_l_made : C8.Cal P w K mg base 6 "_law_made" (spMade K CM) []) (c_apart : C8.Cal P w K mg base 6 "apart" (spApt K CM CA) []) (c_vital_roads : C8.Cal P w K mg base 5 "vital_roads" (spVital K CM) [])
    (c_l_drawn_walk : C8.Cal P w K mg base 2 "_law_drawn_walk" (spDrw K) []) (c_l_ended : C8.Cal P w K mg base 1 "_law_ended" (spEnd K) []) : FnOk P w K mg base CX0 7 f fd p_law (spLaw K) := by
  refine fun_okQ Fn sc_law (fun i => rfl) fun cdv A outer s H E hr => ?_
  refine ⟨_, (pss_cons (ps_set (i := 1) sc_law.nd rfl (Or.inl rfl) (C8.pe_c c_l_numbers hr (by decide) (by rfl) (pa_cons (pv 0) (pa_cons pe_int pa_nil))))
      (pss_cons (ps_set (i := 2) sc_law.nd rfl (Or.inl rfl) (C8.pe_c c_l_parts hr (by decide) (by rfl) (pa_cons (pv 1) (pa_cons pe_int pa_nil))))
      (pss_cons (ps_asg (C8.pe_c c_l_apart_trip hr (by decide) (by rfl) (pa_cons (pv 1) (pa_cons pe_int (pa_cons (pv 2) pa_nil)))) (pg_tup rfl (pgs_cons (pg_name (i := 3) sc_law.nd rfl (Or.inl rfl)) (pgs_cons (pg_name (i := 4) sc_law.nd rfl (Or.inl rfl)) (pgs_cons (pg_name (i := 5) sc_law.nd rfl (Or.inl rfl)) pgs_nil)))))
      (pss_cons (ps_set (i := 6) sc_law.nd rfl (Or.inl rfl) (C8.pe_c c_l_made hr (by decide) (by rfl) (pa_cons (pv 2) pa_nil)))
      (pss_cons (ps_set (i := 7) sc_law.nd rfl (Or.inl rfl) (C8.pe_c c_apart hr (by decide) (by rfl) (pa_cons (pv 6) (pa_cons (pv 3) (pa_cons (pv 4) (pa_cons (pv 5) pa_nil))))))
      (pss_cons (ps_set (i := 8) sc_law.nd rfl (Or.inl rfl) (C8.pe_c c_vital_roads hr (by decide) (by rfl) (pa_cons (pv 6) (pa_cons (pv 3) (pa_cons (pv 4) (pa_cons (pv 5) pa_nil))))))
      (pss_cons (ps_set (i := 9) sc_law.nd rfl (Or.inr rfl) (pe_lst pa_nil))
      (pss_cons (ps_set (i := 10) sc_law.nd rfl (Or.inl rfl) pe_int)
      (pss_cons (ps_for PassesOwn.never rfl (pi_range1 (by rfl) T.b_range (pa_cons pe_int pa_nil)) (pg_name (i := 11) sc_law.nd rfl (Or.inl rfl)) (pss_cons (ps_set (i := 12) sc_law.nd rfl (Or.inr rfl) (C8.pe_c c_l_ended hr (by decide) (by rfl) (pa_cons (pv 2) (pa_cons (C8.pe_c c_l_drawn_walk hr (by decide) (by rfl) (pa_cons (pv 2) (pa_cons (pv 3) (pa_cons (pv 4) (pa_cons (pv 1) (pa_cons (pe_op op_add pe_int (pe_op op_mul pe_int (pv 11))) (pa_cons pe_int pa_nil))))))) (pa_cons (pv 5) pa_nil)))))
      (pss_one (ps_if (pt_cmpR op_notN1 (pv 12) pe_non (nomark _)) (pss_cons (ps_if (PW.pt (pw_or (pt_cmpR op_isN1 (pv 8) pe_non (nomark _)) (pw_or1 (pt_not (pt_val (pe_callB (cr_all rfl) (by rfl) T.b_all PyProof.Rows.boot_all (pa_cons (pe_lc rfl sc_law.nd (pi_list (pv 8)) (blkOk_by (own := [("_law_name", 13)]) (N := n_law) (sc := defScope s_law) (by decide +kernel)) (fun _ _ _ _ _ => (pg_name (i := 13) sc_law.nd rfl (Or.inl rfl))) (fun _ _ _ _ _ => pts_nil) (fun _ _ _ _ _ => (pe_cmpR (show OpR _ _ (rIn K false) from op_in_seq) (pv 13) (pv 12) (by with_unfolding_all rfl)))) pa_nil))))))) (pss_one (ps_ret pe_bl)) pss_nil)
      (pss_cons (ps_if (pt_not (pt_val (pe_callB (cr_any rfl) (by rfl) T.b_any PyProof.Rows.boot_any (pa_cons (pe_lc rfl sc_law.nd (pi_tup (pe_fld (pv 7) rfl)) (blkOk_by (own := [("_law_name", 13)]) (N := n_law) (sc := defScope s_law) (by decide +kernel)) (fun _ _ _ _ _ => (pg_name (i := 13) sc_law.nd rfl (Or.inl rfl))) (fun _ _ _ _ _ => pts_nil) (fun _ _ _ _ _ => (pe_cmpR (show OpR _ _ (rIn K false) from op_in_seq) (pv 13) (pv 12) (by with_unfolding_all rfl)))) pa_nil)))) (pss_one (ps_ret pe_bl)) pss_nil)
      (pss_one (ps_if (pt_not (pt_val (pe_callB (cr_any rfl) (by rfl) T.b_any PyProof.Rows.boot_any (pa_cons (pe_lc rfl sc_law.nd (pi_list (pv 12)) (blkOk_by (own := [("_law_name", 13)]) (N := n_law) (sc := defScope s_law) (by decide +kernel)) (fun _ _ _ _ _ => (pg_name (i := 13) sc_law.nd rfl (Or.inl rfl))) (fun _ _ _ _ _ => pts_nil) (fun _ _ _ _ _ => (pe_or (pe_cmpR (show OpR _ _ (rIn K false) from op_in_seq) (pv 13) (pv 9) (by with_unfolding_all rfl)) (pe_one (pe_cmpR op_gt (show PE _ _ (tBM K "list" (rCountS K) _ _) from (pe_bm PySem.F.plainAttrs_list PySem.F.slot_list_count PySem.F.type_list_count mt_countS (pv 12) (pa_cons (pv 13) pa_nil))) pe_int (nomark _)))))) pa_nil)))) (pss_cons (ps_set (i := 9) sc_law.nd rfl (Or.inr rfl) (pe_op op_cat (pv 9) (pv 12)))
      (pss_one (ps_set (i := 10) sc_law.nd rfl (Or.inl rfl) (pe_op op_add (pv 10) pe_int)))) pss_nil)))) pss_nil))))
      (pss_one (ps_ret (pe_cmpR op_le (pv 10) (pe_callB call_lenA (by rfl) T.b_len PySem.boot_len (pa_cons (pe_fld (pv 7) rfl) pa_nil)) (nomark _))))))))))))), fun i => ?_⟩
  obtain ⟨ns, hns⟩ := i
  show ASt K _ [some (.d (scr K ns)), none, none, none, none, none, none, none, none, none, none, none, none, none] _
  refine ast_seq (ast_asg (evp_callQ (eva_cons (evp_var rfl (eva_1 (evp_int ⟨⟨ns, hns⟩, rfl, fun m hm => ?_⟩))))))
  obtain ⟨xs, rfl, hn⟩ := hm
  refine ast_seq (ast_asg (evp_callQ (eva_cons (evp_var rfl (eva_1 (evp_int ⟨⟨xs, hn⟩, rfl, fun m hm => ?_⟩))))))
  obtain ⟨p, rfl, ok⟩ := hm
  refine ast_seq (ast_asgG (evp_callQ (eva_cons (evp_var rfl (eva_cons (evp_int (eva_v1 rfl ⟨⟨xs, hn, p, ok⟩, rfl, fun m hm => ?_⟩)))))))
  obtain ⟨kind, start, goal, rfl, hk, hs, hg, hne⟩ := hm
  have hk : kind ∈ p.kinds := hk
  have hs : start ∈ p.places := hs
  have hg : goal ∈ p.places := hg
  refine as_tup (ds := [.str kind, .str start, .str goal]) rfl rfl (asg_cons (asg_cons (asg_cons (asg_nil ?_))))
  refine ast_seq (ast_asg (evp_callQ (eva_v1 rfl ⟨⟨p, ok⟩, rfl, fun m hm => ?_⟩)))
  obtain ⟨c, rfl, mk⟩ := hm
  have mk : MapOk (p.toMap ok) c := mk
  have hk' : kind ∈ c.kinds := mk.kinds.mem_iff.mpr hk
  have hs' : start ∈ c.places := mk.places.mem_iff.mpr hs
  have hg' : goal ∈ c.places := mk.places.mem_iff.mpr hg
  refine ast_seq (ast_asg (evp_callQ (eva_v4 rfl rfl rfl rfl ⟨⟨⟨c, kind, start, goal, hk', hs', hg', hne⟩, mk_ok mk⟩, rfl, fun m hm => ?_⟩)))
  obtain ⟨rs, cut, rfl, hle, hrs, hcut⟩ := hm
  have hcut : CutOk c kind start goal cut := hcut
  refine ast_seq (ast_asg (evp_callQ (eva_v4 rfl rfl rfl rfl ⟨⟨⟨c, kind, start, goal, hk', hs', hg', hne⟩, mk_ok mk⟩, rfl, fun m hm => ?_⟩)))
  have hV : ∃ V : Option (List Str), m = dat K (optLD V) ∧ (V = none → NoWay c (c.avail kind none) start goal) ∧ ∀ vs, V = some vs → vs.length ≤ 100 ∧ ∀ x ∈ vs, NoWay c (c.avail kind (some x)) start goal := by
    rcases hm with ⟨rfl, h⟩ | ⟨vs, rfl, h1, h2⟩
    · exact ⟨none, rfl, (fun _ => h), (fun vs e => by cases e)⟩
    · exact ⟨some vs, rfl, (fun e => by cases e), (fun vs' e => by cases e; exact ⟨h1, h2⟩)⟩
  clear hm
  obtain ⟨V, rfl, hV0, hV1⟩ := hV
  refine ast_seq (ast_asg (evn_p (evn_lst (eva_nil ⟨[], rfl, by simp, ?_⟩))))
  refine ast_seq (ast_asg (evp_int ?_))
  refine ast_seq (ast_for (evi_rng (eva_1 (evp_int ⟨6, rfl, by decide, by decide, ?_⟩))))
  refine ⟨fun i A' => ∃ (used : List Str) (n : Nat) (y z : Option Sl), used.length ≤ 9 * i ∧ Kept cut used n ∧ A' = [some (.d (scr K ns)), some (.d (dL K (zds xs))), some (.d (prtM K p)), some (.d (dS K kind)), some (.d (dS K start)), some (.d (dS K goal)), some (.d (chM K CM c)), some (.d (insM CA (apF K rs cut))), some (.d (dat K (optLD V))), some (.d (dL K (sds used))), some (.d (dI K (n : Int))), y, z, none], ⟨[], 0, none, none, Nat.le_refl _, Kept.none, rfl⟩, ?_, ?_⟩
  · rintro i m A' hm' ⟨used, n, y, z, hl, hkp, rfl⟩
    obtain ⟨hi, rfl⟩ := rng_at hm'
    have hi : i < 6 := hi
    refine as_name ?_
    refine ast_seq (ast_asg (evp_callQ (eva_cons (evp_var rfl (eva_cons (evp_callQ (eva_cons (evp_var rfl (eva_cons (evp_var rfl (eva_cons (evp_var rfl (eva_cons (evp_var rfl (eva_cons (evp_op (evp_int (evp_op (evp_int (evp_var rfl (rok_ic (cmul_l (by decide)) (rok_i (eva_1 (evp_int ⟨⟨p, ok, kind, start, xs, hn, 110 + 9 * i, by omega⟩, ?_, fun m hm => ?_⟩))))))))))))))))))))))))
    · rfl
    obtain ⟨ds, rfl, dl, dd⟩ := hm
    have dl : ds.length ≤ 9 := dl
    have dd : DrawOk p kind start none ds := dd
    refine eva_v1 rfl ⟨⟨p, ok, ds, dl, dd.mem, goal⟩, rfl, fun m hm => ?_⟩
    obtain ⟨o, rfl, ho⟩ := hm
    refine ast_if (evt_test (evp_op (evp_var rfl (evp_non (rok_notN rfl ⟨_, rfl, ?_⟩)))))
    cases o with
    | none => exact ast_next ⟨used, n, _, _, by omega, hkp, rfl⟩
    | some k =>
      obtain ⟨r, hr1, hr2⟩ := ho k rfl
      obtain ⟨x, tr, hst⟩ := draw_start mk dd hr1 hr2
      have ll : ((ds.map Rd.name).take (k + 1)).length ≤ 9 := by
        rw [List.length_take, List.length_map]
        omega
      generalize el : (ds.map Rd.name).take (k + 1) = l at tr ll
      show (if true = true then ASt K _ _ _ else ASt K _ _ _)
      rw [if_pos rfl]
      show ASt K _ [some (.d (scr K ns)), some (.d (dL K (zds xs))), some (.d (prtM K p)), some (.d (dS K kind)), some (.d (dS K start)), some (.d (dS K goal)), some (.d (chM K CM c)), some (.d (insM CA (apF K rs cut))), some (.d (dat K (optLD V))), some (.d (dL K (sds used))), some (.d (dI K (n : Int))), some (.d (dI K (i : Int))), some (.d (dL K (sds ((ds.map Rd.name).take (k + 1))))), none] _
      rw [el]
      refine ast_seq (ast_if (evt_or (evt_test (evp_op (evp_var rfl (evp_non (rok_isN rfl ⟨_, rfl, ?_⟩)))))))
      cases V with
      | none => exact (vital_none (hV0 rfl) tr hst).elim
      | some vs =>
        obtain ⟨v1, v2⟩ := hV1 vs rfl
        show (if false = true then _ else EvT K _ _ _)
        rw [if_neg (by decide)]
        refine evt_not (evt_B (evp_cb (eva_1 (evn_p (evn_fm (l := vs) (enc := fun v => dS K v) (p := fun _ => true) (f := fun v => .bool (decide (v ∈ l))) (by simp) (by omega) ?_ ?_ ?_ ?_)))))
        · exact evi_list (evp_var rfl ⟨sds vs, rfl, by unfold sds; rw [List.map_map]; rfl⟩)
        · exact fun v hv => evt_yes rfl
        · exact fun v hv _ => evp_op (evp_var rfl (evp_var rfl (rok_inL rfl)))
        rw [List.filter_eq_self.mpr (fun _ _ => rfl)]
        have e : vs.map (fun v => PyData.bool (decide (v ∈ l))) = (vs.map fun v => decide (v ∈ l)).map PyData.bool := by rw [List.map_map]; rfl
        rw [e]
        refine cok_all ⟨_, rfl, ?_⟩
        rw [all_yes _ _ fun v hv => decide_eq_true (vital_some (v2 v hv) tr hst)]
        refine ast_next ?_
        clear e
        -- the cut
        refine ast_seq (ast_if (evt_not (evt_B (evp_cb (eva_1 (evn_p (evn_fm (l := cut) (enc := fun v => dS K v) (p := fun _ => true) (f := fun v => .bool (decide (v ∈ l))) (by simp) (by omega) ?_ ?_ ?_ ?_)))))))
        · exact evi_tup (evp_fld (evp_var rfl ⟨CA, _, _, rfl, T.clA, T.a_cut, rfl, sds cut, rfl, by unfold sds; rw [List.map_map]; rfl⟩))
        · exact fun v hv => evt_yes rfl
        · exact fun v hv _ => evp_op (evp_var rfl (evp_var rfl (rok_inL rfl)))
        rw [List.filter_eq_self.mpr (fun _ _ => rfl)]
        have e : cut.map (fun v => PyData.bool (decide (v ∈ l))) = (cut.map fun v => decide (v ∈ l)).map PyData.bool := by rw [List.map_map]; rfl
        rw [e]
        obtain ⟨y, hy, hyc⟩ := hcut x l tr hst
        refine cok_any ⟨_, rfl, ?_⟩
        rw [any_map, List.any_eq_true.mpr ⟨y, hyc, decide_eq_true hy⟩]
        refine ast_next ?_
        clear e
        -- the walks kept
        refine ast_if (evt_not (evt_B (evp_cb (eva_1 (evn_p (evn_fm (l := l) (enc := fun v => dS K v) (p := fun _ => true) (f := fun v => .bool (decide (v ∈ used) || decide (((l.count v : Nat) : Int) > 1))) (by simp) (by omega) ?_ ?_ ?_ ?_))))))
        · exact evi_list (evp_var rfl ⟨sds l, rfl, by unfold sds; rw [List.map_map]; rfl⟩)
        · exact fun v hv => evt_yes rfl
        · intro v hv _
          refine evp_orV (evp_op (evp_var rfl (evp_var rfl (rok_inL ⟨_, rfl, ?_⟩))))
          cases decide (v ∈ used) with
          | true => exact rfl
          | false => exact evp_op (evp_bm (evp_var rfl ⟨ty_lst, eva_v1 rfl (mok_countS (evp_int (rok_b rfl)))⟩))
        rw [List.filter_eq_self.mpr (fun _ _ => rfl)]
        have e : l.map (fun v => PyData.bool (decide (v ∈ used) || decide (((l.count v : Nat) : Int) > 1))) = (l.map fun v => (decide (v ∈ used) || decide (((l.count v : Nat) : Int) > 1))).map PyData.bool := by rw [List.map_map]; rfl
        rw [e]
        refine cok_any ⟨_, rfl, ?_⟩
        rw [any_map]
        cases ha : l.any (fun v => (decide (v ∈ used) || decide (((l.count v : Nat) : Int) > 1))) with
        | true => exact ast_next ⟨used, n, _, _, by omega, hkp, rfl⟩
        | false =>
          have hu : ∀ v ∈ l, v ∉ used := fun v hv hin => by
            have := List.any_eq_false.mp ha v hv
            simp [hin] at this
          have ul : (sds used).length = used.length := List.length_map _
          have l2 : (sds l).length = l.length := List.length_map _
          refine ast_seq (ast_asg (evp_op (evp_var rfl (evp_var rfl (rok_cat (by omega) ?_)))))
          refine ast_asg (evp_op (evp_var rfl (evp_int (rok_i ⟨used ++ l, n + 1, some (.d (dI K (i : Int))), some (.d (dL K (sds l))), ?_, hkp.add hy hyc hu, ?_⟩))))
          · rw [List.length_append]; omega
          · unfold sds
            rw [List.map_append]
            rfl
  · rintro A' ⟨used, n, y, z, hl, hkp, rfl⟩
    have h1 := hkp.le
    refine ast_ret (evp_op (evp_var rfl (evp_cb (eva_1 (evp_fld (evp_var rfl ⟨CA, _, _, rfl, T.clA, T.a_routes, rfl, cok_lenL (rok_b ?_)⟩))))))
    rw [List.length_map, decide_eq_true (by omega)]
end Wp
namespace Wp
open PySem PySem.Spec PyProof.Rows L2
theorem kc_way (D : Addr) (doc pm : Value) (an : Option Addr) (cdv ct : Value) (us ks : List Value) (h1 : us.length = 4) (h2 : ks.length = 1) :
      KwChain D ((["without"] : List Str).zip ks) (bindArgs (PySem.W.fnOf "is_way" "is_way" (defArgs s_is_way) (defBody s_is_way) (defScope s_is_way) .none (.ref D) doc pm an cdv ct) ⟨us, []⟩) (p_is_way.zip (us ++ ks)) :=
  match us, ks, h1, h2 with
  | [_, _, _, _], [_], _, _ => ⟨_, _, _, _, _, _, rfl, rfl, rfl⟩
theorem kc_way1 (D : Addr) (doc pm : Value) (an : Option Addr) (cdv ct : Value) (us mv ws : List Value) (h1 : us.length = 4) (h2 : mv.length = 0) (h3 : ws.length = 1) :
      KwChain D (([] : List Str).zip mv) (bindArgs (PySem.W.fnOf "is_way" "is_way" (defArgs s_is_way) (defBody s_is_way) (defScope s_is_way) .none (.ref D) doc pm an cdv ct) ⟨us, (["without"] : List Str).zip ws⟩) (p_is_way.zip (us ++ ws)) :=
  match us, ws, h1, h3 with
  | [_, _, _, _], [_], _, _ => rfl
theorem kc_map (D : Addr) (doc pm : Value) (an : Option Addr) (cdv ct : Value) (us mv ws : List Value) (h1 : us.length = 1) (h2 : mv.length = 0) (h3 : ws.length = 5) :
      KwChain D (([] : List Str).zip mv) (bindArgs (PySem.W.fnOf "__init__" "Map.__init__" (defArgs s_Map___init__) (defBody s_Map___init__) (defScope s_Map___init__) .none (.ref D) doc pm an cdv ct) ⟨us, mapKs.zip ws⟩) (p_Map___init__.zip (us ++ ws)) :=
  match us, ws, h1, h3 with
  | [_], [_, _, _, _, _], _, _ => rfl
theorem vals_app {xs ys : List V} {us ws : List Value} (h : Vals xs us) (k : Vals ys ws) : Vals (xs ++ ys) (us ++ ws) := Vals.append h k
theorem law_sp {K : PySem.W.Frag} {H : Hp} {a : Addr} {ns : List Int} {E : XK} (hl : ns.length ≤ 63) (hS : SqL K H a (ns.map V.int)) : spLaw K [V.ref a] H (fun v _ => v = V.bl true) E :=
  ⟨⟨ns, hl⟩, H, [scr K ns], Ex.refl _, .cons ⟨a, rfl, hS⟩ .nil, rfl, fun v r F' H' g p q => by
    subst q
    exact p_bl p⟩
end Wp
/-! What the top has left; the law's end. -/
namespace Wp
open PySem PySem.Spec PyProof.Rows L2
theorem all_mk {l : PySem.W.OpenLaw} {w : World} {K : PySem.W.Frag} {h : Heap} {mg : Str → Option Value} {fa : Addr} (X : K.In h) (G : h.Ns mainGlobals mg) (hfa : mg "law" = some (.ref fa))
    {CM : Addr} {CN : Addr} {CA : Addr} {uMOST_NAME_CHARS : Value} {uMOST_DAY : Value} {uMOST_PLACES : Value} {uMOST_KINDS : Value} {uMOST_ROADS : Value} {uMOST_BARS : Value} {uMOST_MINUTES : Value} {uMOST_HOURS : Value} {uROAD_PARTS : Value} {uNAME_CHARS : Value} {f1 : Addr} {od1 an1 : Option Addr} {sl1 : Array (Option Value)} {oc1 dc1 pm1 cd1 ct1 : Value} {kV1 : Value} {f2 : Addr} {od2 an2 : Option Addr} {sl2 : Array (Option Value)} {oc2 dc2 pm2 cd2 ct2 : Value} {kV2 : Value} {f3 : Addr} {od3 an3 : Option Addr} {sl3 : Array (Option Value)} {oc3 dc3 pm3 cd3 ct3 : Value} {kV3 : Value} {f4 : Addr} {od4 an4 : Option Addr} {sl4 : Array (Option Value)} {oc4 dc4 pm4 cd4 ct4 : Value} {kV4 : Value} {f5 : Addr} {od5 an5 : Option Addr} {sl5 : Array (Option Value)} {oc5 dc5 pm5 cd5 ct5 : Value} {kV5 : Value} {f6 : Addr} {od6 an6 : Option Addr} {sl6 : Array (Option Value)} {oc6 dc6 pm6 cd6 ct6 : Value} {kV6 : Value} {f7 : Addr} {od7 an7 : Option Addr} {sl7 : Array (Option Value)} {oc7 dc7 pm7 cd7 ct7 : Value} {kV7 : Value} {f8 : Addr} {od8 an8 : Option Addr} {sl8 : Array (Option Value)} {oc8 dc8 pm8 cd8 ct8 : Value} {kV8 : Value} {f9 : Addr} {od9 an9 : Option Addr} {sl9 : Array (Option Value)} {oc9 dc9 pm9 cd9 ct9 : Value} {kV9 : Value} {f10 : Addr} {od10 an10 : Option Addr} {sl10 : Array (Option Value)} {oc10 dc10 pm10 cd10 ct10 : Value} {kV10 : Value} {f11 : Addr} {od11 an11 : Option Addr} {sl11 : Array (Option Value)} {oc11 dc11 pm11 cd11 ct11 : Value} {kV11 : Value} {DW : Addr} {f12 : Addr} {od12 an12 : Option Addr} {sl12 : Array (Option Value)} {oc12 dc12 pm12 cd12 ct12 : Value} {TW : Addr} {odW : Option Addr} {nW : Nat} {slW : Array (Option Value)} {f13 : Addr} {od13 an13 : Option Addr} {sl13 : Array (Option Value)} {oc13 dc13 pm13 cd13 ct13 : Value} {kV13 : Value} {f14 : Addr} {od14 an14 : Option Addr} {sl14 : Array (Option Value)} {oc14 dc14 pm14 cd14 ct14 : Value} {kV14 : Value} {f15 : Addr} {od15 an15 : Option Addr} {sl15 : Array (Option Value)} {oc15 dc15 pm15 cd15 ct15 : Value} {kV15 : Value} {f16 : Addr} {od16 an16 : Option Addr} {sl16 : Array (Option Value)} {oc16 dc16 pm16 cd16 ct16 : Value} {kV16 : Value} {f17 : Addr} {od17 an17 : Option Addr} {sl17 : Array (Option Value)} {oc17 dc17 pm17 cd17 ct17 : Value} {kV17 : Value} {f18 : Addr} {od18 an18 : Option Addr} {sl18 : Array (Option Value)} {oc18 dc18 pm18 cd18 ct18 : Value} {kV18 : Value} {f19 : Addr} {od19 an19 : Option Addr} {sl19 : Array (Option Value)} {oc19 dc19 pm19 cd19 ct19 : Value} {kV19 : Value} {f20 : Addr} {od20 an20 : Option Addr} {sl20 : Array (Option Value)} {oc20 dc20 pm20 cd20 ct20 : Value} {kV20 : Value} {f21 : Addr} {od21 an21 : Option Addr} {sl21 : Array (Option Value)} {oc21 dc21 pm21 cd21 ct21 : Value} {kV21 : Value} {f22 : Addr} {od22 an22 : Option Addr} {sl22 : Array (Option Value)} {oc22 dc22 pm22 cd22 ct22 : Value} {kV22 : Value} {f23 : Addr} {od23 an23 : Option Addr} {sl23 : Array (Option Value)} {oc23 dc23 pm23 cd23 ct23 : Value} {kV23 : Value} {f24 : Addr} {od24 an24 : Option Addr} {sl24 : Array (Option Value)} {oc24 dc24 pm24 cd24 ct24 : Value} {kV24 : Value} {f25 : Addr} {od25 an25 : Option Addr} {sl25 : Array (Option Value)} {oc25 dc25 pm25 cd25 ct25 : Value} {kV25 : Value} {f26 : Addr} {od26 an26 : Option Addr} {sl26 : Array (Option Value)} {oc26 dc26 pm26 cd26 ct26 : Value} {kV26 : Value} {f27 : Addr} {od27 an27 : Option Addr} {sl27 : Array (Option Value)} {oc27 dc27 pm27 cd27 ct27 : Value} {kV27 : Value} {f28 : Addr} {od28 an28 : Option Addr} {sl28 : Array (Option Value)} {oc28 dc28 pm28 cd28 ct28 : Value} {kV28 : Value} {DM : Addr} {TM : Addr} {f29 : Addr} {od29 an29 : Option Addr} {sl29 : Array (Option Value)} {oc29 dc29 pm29 cd29 ct29 : Value} {f30 : Addr} {od30 an30 : Option Addr} {sl30 : Array (Option Value)} {oc30 dc30 pm30 cd30 ct30 : Value} {kV30 : Value} {f31 : Addr} {od31 an31 : Option Addr} {sl31 : Array (Option Value)} {oc31 dc31 pm31 cd31 ct31 : Value} {kV31 : Value} {f32 : Addr} {od32 an32 : Option Addr} {sl32 : Array (Option Value)} {oc32 dc32 pm32 cd32 ct32 : Value} {kV32 : Value} {f33 : Addr} {od33 an33 : Option Addr} {sl33 : Array (Option Value)} {oc33 dc33 pm33 cd33 ct33 : Value} {kV33 : Value} {f34 : Addr} {od34 an34 : Option Addr} {sl34 : Array (Option Value)} {oc34 dc34 pm34 cd34 ct34 : Value} {kV34 : Value} {f35 : Addr} {od35 an35 : Option Addr} {sl35 : Array (Option Value)} {oc35 dc35 pm35 cd35 ct35 : Value} {kV35 : Value} {f36 : Addr} {od36 an36 : Option Addr} {sl36 : Array (Option Value)} {oc36 dc36 pm36 cd36 ct36 : Value} {kV36 : Value} {f37 : Addr} {od37 an37 : Option Addr} {sl37 : Array (Option Value)} {oc37 dc37 pm37 cd37 ct37 : Value} {kV37 : Value} {f38 : Addr} {od38 an38 : Option Addr} {sl38 : Array (Option Value)} {oc38 dc38 pm38 cd38 ct38 : Value} {kV38 : Value} {f39 : Addr} {od39 an39 : Option Addr} {sl39 : Array (Option Value)} {oc39 dc39 pm39 cd39 ct39 : Value} {kV39 : Value} {f40 : Addr} {od40 an40 : Option Addr} {sl40 : Array (Option Value)} {oc40 dc40 pm40 cd40 ct40 : Value} {kV40 : Value} {pR : Addr} {restR : List Value} {f41 : Addr} {od41 an41 : Option Addr} {sl41 : Array (Option Value)} {oc41 dc41 pm41 cd41 ct41 : Value} {kV41 : Value}
    (aCM : PySem.W.nsIn K mainGlobals "Map" = some (some (.ref CM)))
    (pgCM : PySem.W.plainGet K CM Str.empty = true)
    (hdCM : PySem.W.hasDictIn K CM = true)
    (poCM : PySem.W.plainOver K CM = true)
    (saCM : PySem.W.findIn K (.ref CM) "__setattr__" = some (some (.builtin "object.__setattr__")))
    (mkCM : PySem.W.makesIn K CM = true)
    (kcCM : PySem.W.keepIn K (.ref CM) = true)
    (aCN : PySem.W.nsIn K mainGlobals "Net" = some (some (.ref CN)))
    (pgCN : PySem.W.plainGet K CN Str.empty = true)
    (hdCN : PySem.W.hasDictIn K CN = true)
    (poCN : PySem.W.plainOver K CN = true)
    (saCN : PySem.W.findIn K (.ref CN) "__setattr__" = some (some (.builtin "object.__setattr__")))
    (mkCN : PySem.W.makesIn K CN = true)
    (kcCN : PySem.W.keepIn K (.ref CN) = true)
    (aCA : PySem.W.nsIn K mainGlobals "Apart" = some (some (.ref CA)))
    (pgCA : PySem.W.plainGet K CA Str.empty = true)
    (hdCA : PySem.W.hasDictIn K CA = true)
    (poCA : PySem.W.plainOver K CA = true)
    (saCA : PySem.W.findIn K (.ref CA) "__setattr__" = some (some (.builtin "object.__setattr__")))
    (mkCA : PySem.W.makesIn K CA = true)
    (kcCA : PySem.W.keepIn K (.ref CA) = true)
    (nCMday : PySem.W.findIn K (.ref CM) "day" = some none)
    (nCMplaces : PySem.W.findIn K (.ref CM) "places" = some none)
    (nCMkinds : PySem.W.findIn K (.ref CM) "kinds" = some none)
    (nCMroads : PySem.W.findIn K (.ref CM) "roads" = some none)
    (nCMbars : PySem.W.findIn K (.ref CM) "bars" = some none)
    (nCNleft : PySem.W.findIn K (.ref CN) "left" = some none)
    (nCNahead : PySem.W.findIn K (.ref CN) "ahead" = some none)
    (nCAroutes : PySem.W.findIn K (.ref CA) "routes" = some none)
    (nCAcut : PySem.W.findIn K (.ref CA) "cut" = some none)
    (zlen : PySem.W.nsIn K mainGlobals "len" = some none)
    (zabs : PySem.W.nsIn K mainGlobals "abs" = some none)
    (zmin : PySem.W.nsIn K mainGlobals "min" = some none)
    (zmax : PySem.W.nsIn K mainGlobals "max" = some none)
    (zall : PySem.W.nsIn K mainGlobals "all" = some none)
    (zany : PySem.W.nsIn K mainGlobals "any" = some none)
    (zsorted : PySem.W.nsIn K mainGlobals "sorted" = some none)
    (zint : PySem.W.nsIn K mainGlobals "int" = some none)
    (ztuple : PySem.W.nsIn K mainGlobals "tuple" = some none)
    (zrange : PySem.W.nsIn K mainGlobals "range" = some none)
    (zenumerate : PySem.W.nsIn K mainGlobals "enumerate" = some none)
    (gMOST_NAME_CHARS : PySem.W.nsIn K mainGlobals "MOST_NAME_CHARS" = some (some uMOST_NAME_CHARS))
    (gMOST_DAY : PySem.W.nsIn K mainGlobals "MOST_DAY" = some (some uMOST_DAY))
    (gMOST_PLACES : PySem.W.nsIn K mainGlobals "MOST_PLACES" = some (some uMOST_PLACES))
    (gMOST_KINDS : PySem.W.nsIn K mainGlobals "MOST_KINDS" = some (some uMOST_KINDS))
    (gMOST_ROADS : PySem.W.nsIn K mainGlobals "MOST_ROADS" = some (some uMOST_ROADS))
    (gMOST_BARS : PySem.W.nsIn K mainGlobals "MOST_BARS" = some (some uMOST_BARS))
    (gMOST_MINUTES : PySem.W.nsIn K mainGlobals "MOST_MINUTES" = some (some uMOST_MINUTES))
    (gMOST_HOURS : PySem.W.nsIn K mainGlobals "MOST_HOURS" = some (some uMOST_HOURS))
    (gROAD_PARTS : PySem.W.nsIn K mainGlobals "ROAD_PARTS" = some (some uROAD_PARTS))
    (gNAME_CHARS : PySem.W.nsIn K mainGlobals "NAME_CHARS" = some (some uNAME_CHARS))
    (a1 : PySem.W.nsIn K mainGlobals "require" = some (some (.ref f1)))
    (l1 : K.lookup f1 = some ⟨oc1, od1, .func (PySem.W.fnOf "require" "require" (defArgs s_require) (defBody s_require) (defScope s_require) .none kV1 dc1 pm1 an1 cd1 ct1), sl1⟩)
    (q1 : PySem.W.codeIn K cd1 "require" = true)
    (k1 : PySem.W.keepIn K (.ref f1) = true)
    (a2 : PySem.W.nsIn K mainGlobals "is_name" = some (some (.ref f2)))
    (l2 : K.lookup f2 = some ⟨oc2, od2, .func (PySem.W.fnOf "is_name" "is_name" (defArgs s_is_name) (defBody s_is_name) (defScope s_is_name) .none kV2 dc2 pm2 an2 cd2 ct2), sl2⟩)
    (q2 : PySem.W.codeIn K cd2 "is_name" = true)
    (k2 : PySem.W.keepIn K (.ref f2) = true)
    (a3 : PySem.W.nsIn K mainGlobals "are_different" = some (some (.ref f3)))
    (l3 : K.lookup f3 = some ⟨oc3, od3, .func (PySem.W.fnOf "are_different" "are_different" (defArgs s_are_different) (defBody s_are_different) (defScope s_are_different) .none kV3 dc3 pm3 an3 cd3 ct3), sl3⟩)
    (q3 : PySem.W.codeIn K cd3 "are_different" = true)
    (k3 : PySem.W.keepIn K (.ref f3) = true)
    (a4 : PySem.W.nsIn K mainGlobals "are_hours" = some (some (.ref f4)))
    (l4 : K.lookup f4 = some ⟨oc4, od4, .func (PySem.W.fnOf "are_hours" "are_hours" (defArgs s_are_hours) (defBody s_are_hours) (defScope s_are_hours) .none kV4 dc4 pm4 an4 cd4 ct4), sl4⟩)
    (q4 : PySem.W.codeIn K cd4 "are_hours" = true)
    (k4 : PySem.W.keepIn K (.ref f4) = true)
    (a5 : PySem.W.nsIn K mainGlobals "name_of" = some (some (.ref f5)))
    (l5 : K.lookup f5 = some ⟨oc5, od5, .func (PySem.W.fnOf "name_of" "name_of" (defArgs s_name_of) (defBody s_name_of) (defScope s_name_of) .none kV5 dc5 pm5 an5 cd5 ct5), sl5⟩)
    (q5 : PySem.W.codeIn K cd5 "name_of" = true)
    (k5 : PySem.W.keepIn K (.ref f5) = true)
    (a6 : PySem.W.nsIn K mainGlobals "check_ends" = some (some (.ref f6)))
    (l6 : K.lookup f6 = some ⟨oc6, od6, .func (PySem.W.fnOf "check_ends" "check_ends" (defArgs s_check_ends) (defBody s_check_ends) (defScope s_check_ends) .none kV6 dc6 pm6 an6 cd6 ct6), sl6⟩)
    (q6 : PySem.W.codeIn K cd6 "check_ends" = true)
    (k6 : PySem.W.keepIn K (.ref f6) = true)
    (a7 : PySem.W.nsIn K mainGlobals "is_open" = some (some (.ref f7)))
    (l7 : K.lookup f7 = some ⟨oc7, od7, .func (PySem.W.fnOf "is_open" "is_open" (defArgs s_is_open) (defBody s_is_open) (defScope s_is_open) .none kV7 dc7 pm7 an7 cd7 ct7), sl7⟩)
    (q7 : PySem.W.codeIn K cd7 "is_open" = true)
    (k7 : PySem.W.keepIn K (.ref f7) = true)
    (a8 : PySem.W.nsIn K mainGlobals "usable" = some (some (.ref f8)))
    (l8 : K.lookup f8 = some ⟨oc8, od8, .func (PySem.W.fnOf "usable" "usable" (defArgs s_usable) (defBody s_usable) (defScope s_usable) .none kV8 dc8 pm8 an8 cd8 ct8), sl8⟩)
    (q8 : PySem.W.codeIn K cd8 "usable" = true)
    (k8 : PySem.W.keepIn K (.ref f8) = true)
    (a9 : PySem.W.nsIn K mainGlobals "road_behind" = some (some (.ref f9)))
    (l9 : K.lookup f9 = some ⟨oc9, od9, .func (PySem.W.fnOf "road_behind" "road_behind" (defArgs s_road_behind) (defBody s_road_behind) (defScope s_road_behind) .none kV9 dc9 pm9 an9 cd9 ct9), sl9⟩)
    (q9 : PySem.W.codeIn K cd9 "road_behind" = true)
    (k9 : PySem.W.keepIn K (.ref f9) = true)
    (a10 : PySem.W.nsIn K mainGlobals "routes_of" = some (some (.ref f10)))
    (l10 : K.lookup f10 = some ⟨oc10, od10, .func (PySem.W.fnOf "routes_of" "routes_of" (defArgs s_routes_of) (defBody s_routes_of) (defScope s_routes_of) .none kV10 dc10 pm10 an10 cd10 ct10), sl10⟩)
    (q10 : PySem.W.codeIn K cd10 "routes_of" = true)
    (k10 : PySem.W.keepIn K (.ref f10) = true)
    (a11 : PySem.W.nsIn K mainGlobals "apart" = some (some (.ref f11)))
    (l11 : K.lookup f11 = some ⟨oc11, od11, .func (PySem.W.fnOf "apart" "apart" (defArgs s_apart) (defBody s_apart) (defScope s_apart) .none kV11 dc11 pm11 an11 cd11 ct11), sl11⟩)
    (q11 : PySem.W.codeIn K cd11 "apart" = true)
    (k11 : PySem.W.keepIn K (.ref f11) = true)
    (a12 : PySem.W.nsIn K mainGlobals "is_way" = some (some (.ref f12)))
    (l12 : K.lookup f12 = some ⟨oc12, od12, .func (PySem.W.fnOf "is_way" "is_way" (defArgs s_is_way) (defBody s_is_way) (defScope s_is_way) .none (.ref DW) dc12 pm12 an12 cd12 ct12), sl12⟩)
    (q12 : PySem.W.codeIn K cd12 "is_way" = true)
    (k12 : PySem.W.keepIn K (.ref f12) = true)
    (w1 : PySem.W.nsIn K DW "without" = some (some (.ref TW)))
    (w2 : K.lookup TW = some ⟨.type "tuple", odW, .seq #[] nW, slW⟩)
    (a13 : PySem.W.nsIn K mainGlobals "vital_roads" = some (some (.ref f13)))
    (l13 : K.lookup f13 = some ⟨oc13, od13, .func (PySem.W.fnOf "vital_roads" "vital_roads" (defArgs s_vital_roads) (defBody s_vital_roads) (defScope s_vital_roads) .none kV13 dc13 pm13 an13 cd13 ct13), sl13⟩)
    (q13 : PySem.W.codeIn K cd13 "vital_roads" = true)
    (k13 : PySem.W.keepIn K (.ref f13) = true)
    (a14 : PySem.W.nsIn K mainGlobals "_law_row" = some (some (.ref f14)))
    (l14 : K.lookup f14 = some ⟨oc14, od14, .func (PySem.W.fnOf "_law_row" "_law_row" (defArgs s_l_row) (defBody s_l_row) (defScope s_l_row) .none kV14 dc14 pm14 an14 cd14 ct14), sl14⟩)
    (q14 : PySem.W.codeIn K cd14 "_law_row" = true)
    (k14 : PySem.W.keepIn K (.ref f14) = true)
    (a15 : PySem.W.nsIn K mainGlobals "_law_numbers" = some (some (.ref f15)))
    (l15 : K.lookup f15 = some ⟨oc15, od15, .func (PySem.W.fnOf "_law_numbers" "_law_numbers" (defArgs s_l_numbers) (defBody s_l_numbers) (defScope s_l_numbers) .none kV15 dc15 pm15 an15 cd15 ct15), sl15⟩)
    (q15 : PySem.W.codeIn K cd15 "_law_numbers" = true)
    (k15 : PySem.W.keepIn K (.ref f15) = true)
    (a16 : PySem.W.nsIn K mainGlobals "_law_hours" = some (some (.ref f16)))
    (l16 : K.lookup f16 = some ⟨oc16, od16, .func (PySem.W.fnOf "_law_hours" "_law_hours" (defArgs s_l_hours) (defBody s_l_hours) (defScope s_l_hours) .none kV16 dc16 pm16 an16 cd16 ct16), sl16⟩)
    (q16 : PySem.W.codeIn K cd16 "_law_hours" = true)
    (k16 : PySem.W.keepIn K (.ref f16) = true)
    (a17 : PySem.W.nsIn K mainGlobals "_law_road" = some (some (.ref f17)))
    (l17 : K.lookup f17 = some ⟨oc17, od17, .func (PySem.W.fnOf "_law_road" "_law_road" (defArgs s_l_road) (defBody s_l_road) (defScope s_l_road) .none kV17 dc17 pm17 an17 cd17 ct17), sl17⟩)
    (q17 : PySem.W.codeIn K cd17 "_law_road" = true)
    (k17 : PySem.W.keepIn K (.ref f17) = true)
    (a18 : PySem.W.nsIn K mainGlobals "_law_bars" = some (some (.ref f18)))
    (l18 : K.lookup f18 = some ⟨oc18, od18, .func (PySem.W.fnOf "_law_bars" "_law_bars" (defArgs s_l_bars) (defBody s_l_bars) (defScope s_l_bars) .none kV18 dc18 pm18 an18 cd18 ct18), sl18⟩)
    (q18 : PySem.W.codeIn K cd18 "_law_bars" = true)
    (k18 : PySem.W.keepIn K (.ref f18) = true)
    (a19 : PySem.W.nsIn K mainGlobals "_law_parts" = some (some (.ref f19)))
    (l19 : K.lookup f19 = some ⟨oc19, od19, .func (PySem.W.fnOf "_law_parts" "_law_parts" (defArgs s_l_parts) (defBody s_l_parts) (defScope s_l_parts) .none kV19 dc19 pm19 an19 cd19 ct19), sl19⟩)
    (q19 : PySem.W.codeIn K cd19 "_law_parts" = true)
    (k19 : PySem.W.keepIn K (.ref f19) = true)
    (a20 : PySem.W.nsIn K mainGlobals "_law_names" = some (some (.ref f20)))
    (l20 : K.lookup f20 = some ⟨oc20, od20, .func (PySem.W.fnOf "_law_names" "_law_names" (defArgs s_l_names) (defBody s_l_names) (defScope s_l_names) .none kV20 dc20 pm20 an20 cd20 ct20), sl20⟩)
    (q20 : PySem.W.codeIn K cd20 "_law_names" = true)
    (k20 : PySem.W.keepIn K (.ref f20) = true)
    (a21 : PySem.W.nsIn K mainGlobals "_law_made" = some (some (.ref f21)))
    (l21 : K.lookup f21 = some ⟨oc21, od21, .func (PySem.W.fnOf "_law_made" "_law_made" (defArgs s_l_made) (defBody s_l_made) (defScope s_l_made) .none kV21 dc21 pm21 an21 cd21 ct21), sl21⟩)
    (q21 : PySem.W.codeIn K cd21 "_law_made" = true)
    (k21 : PySem.W.keepIn K (.ref f21) = true)
    (a22 : PySem.W.nsIn K mainGlobals "_law_open" = some (some (.ref f22)))
    (l22 : K.lookup f22 = some ⟨oc22, od22, .func (PySem.W.fnOf "_law_open" "_law_open" (defArgs s_l_open) (defBody s_l_open) (defScope s_l_open) .none kV22 dc22 pm22 an22 cd22 ct22), sl22⟩)
    (q22 : PySem.W.codeIn K cd22 "_law_open" = true)
    (k22 : PySem.W.keepIn K (.ref f22) = true)
    (a23 : PySem.W.nsIn K mainGlobals "_law_follows" = some (some (.ref f23)))
    (l23 : K.lookup f23 = some ⟨oc23, od23, .func (PySem.W.fnOf "_law_follows" "_law_follows" (defArgs s_l_follows) (defBody s_l_follows) (defScope s_l_follows) .none kV23 dc23 pm23 an23 cd23 ct23), sl23⟩)
    (q23 : PySem.W.codeIn K cd23 "_law_follows" = true)
    (k23 : PySem.W.keepIn K (.ref f23) = true)
    (a24 : PySem.W.nsIn K mainGlobals "_law_trip" = some (some (.ref f24)))
    (l24 : K.lookup f24 = some ⟨oc24, od24, .func (PySem.W.fnOf "_law_trip" "_law_trip" (defArgs s_l_trip) (defBody s_l_trip) (defScope s_l_trip) .none kV24 dc24 pm24 an24 cd24 ct24), sl24⟩)
    (q24 : PySem.W.codeIn K cd24 "_law_trip" = true)
    (k24 : PySem.W.keepIn K (.ref f24) = true)
    (a25 : PySem.W.nsIn K mainGlobals "_law_apart_trip" = some (some (.ref f25)))
    (l25 : K.lookup f25 = some ⟨oc25, od25, .func (PySem.W.fnOf "_law_apart_trip" "_law_apart_trip" (defArgs s_l_apart_trip) (defBody s_l_apart_trip) (defScope s_l_apart_trip) .none kV25 dc25 pm25 an25 cd25 ct25), sl25⟩)
    (q25 : PySem.W.codeIn K cd25 "_law_apart_trip" = true)
    (k25 : PySem.W.keepIn K (.ref f25) = true)
    (a26 : PySem.W.nsIn K mainGlobals "_law_drawn_walk" = some (some (.ref f26)))
    (l26 : K.lookup f26 = some ⟨oc26, od26, .func (PySem.W.fnOf "_law_drawn_walk" "_law_drawn_walk" (defArgs s_l_drawn_walk) (defBody s_l_drawn_walk) (defScope s_l_drawn_walk) .none kV26 dc26 pm26 an26 cd26 ct26), sl26⟩)
    (q26 : PySem.W.codeIn K cd26 "_law_drawn_walk" = true)
    (k26 : PySem.W.keepIn K (.ref f26) = true)
    (a27 : PySem.W.nsIn K mainGlobals "_law_ended" = some (some (.ref f27)))
    (l27 : K.lookup f27 = some ⟨oc27, od27, .func (PySem.W.fnOf "_law_ended" "_law_ended" (defArgs s_l_ended) (defBody s_l_ended) (defScope s_l_ended) .none kV27 dc27 pm27 an27 cd27 ct27), sl27⟩)
    (q27 : PySem.W.codeIn K cd27 "_law_ended" = true)
    (k27 : PySem.W.keepIn K (.ref f27) = true)
    (a28 : PySem.W.nsIn K mainGlobals "law" = some (some (.ref f28)))
    (l28 : K.lookup f28 = some ⟨oc28, od28, .func (PySem.W.fnOf "law" "law" (defArgs s_law) (defBody s_law) (defScope s_law) .none kV28 dc28 pm28 an28 cd28 ct28), sl28⟩)
    (q28 : PySem.W.codeIn K cd28 "law" = true)
    (k28 : PySem.W.keepIn K (.ref f28) = true)
    (a29 : PySem.W.findIn K (.ref CM) "__init__" = some (some (.ref f29)))
    (i29 : PySem.W.isFn K (.ref f29) = true)
    (l29 : K.lookup f29 = some ⟨oc29, od29, .func (PySem.W.fnOf "__init__" "Map.__init__" (defArgs s_Map___init__) (defBody s_Map___init__) (defScope s_Map___init__) .none (.ref DM) dc29 pm29 an29 cd29 ct29), sl29⟩)
    (q29 : PySem.W.codeIn K cd29 "Map.__init__" = true)
    (k29 : PySem.W.keepIn K (.ref f29) = true)
    (x1 : PySem.W.nsIn K DM "places" = some (some (.ref TM)))
    (a30 : PySem.W.findIn K (.ref CM) "checked" = some (some (.ref f30)))
    (i30 : PySem.W.isFn K (.ref f30) = true)
    (l30 : K.lookup f30 = some ⟨oc30, od30, .func (PySem.W.fnOf "checked" "Map.checked" (defArgs s_Map_checked) (defBody s_Map_checked) (defScope s_Map_checked) .none kV30 dc30 pm30 an30 cd30 ct30), sl30⟩)
    (q30 : PySem.W.codeIn K cd30 "Map.checked" = true)
    (k30 : PySem.W.keepIn K (.ref f30) = true)
    (a31 : PySem.W.findIn K (.ref CM) "checked_bar" = some (some (.ref f31)))
    (i31 : PySem.W.isFn K (.ref f31) = true)
    (l31 : K.lookup f31 = some ⟨oc31, od31, .func (PySem.W.fnOf "checked_bar" "Map.checked_bar" (defArgs s_Map_checked_bar) (defBody s_Map_checked_bar) (defScope s_Map_checked_bar) .none kV31 dc31 pm31 an31 cd31 ct31), sl31⟩)
    (q31 : PySem.W.codeIn K cd31 "Map.checked_bar" = true)
    (k31 : PySem.W.keepIn K (.ref f31) = true)
    (a32 : PySem.W.findIn K (.ref CM) "road" = some (some (.ref f32)))
    (i32 : PySem.W.isFn K (.ref f32) = true)
    (l32 : K.lookup f32 = some ⟨oc32, od32, .func (PySem.W.fnOf "road" "Map.road" (defArgs s_Map_road) (defBody s_Map_road) (defScope s_Map_road) .none kV32 dc32 pm32 an32 cd32 ct32), sl32⟩)
    (q32 : PySem.W.codeIn K cd32 "Map.road" = true)
    (k32 : PySem.W.keepIn K (.ref f32) = true)
    (a33 : PySem.W.findIn K (.ref CM) "check_place" = some (some (.ref f33)))
    (i33 : PySem.W.isFn K (.ref f33) = true)
    (l33 : K.lookup f33 = some ⟨oc33, od33, .func (PySem.W.fnOf "check_place" "Map.check_place" (defArgs s_Map_check_place) (defBody s_Map_check_place) (defScope s_Map_check_place) .none kV33 dc33 pm33 an33 cd33 ct33), sl33⟩)
    (q33 : PySem.W.codeIn K cd33 "Map.check_place" = true)
    (k33 : PySem.W.keepIn K (.ref f33) = true)
    (a34 : PySem.W.findIn K (.ref CM) "roads_from" = some (some (.ref f34)))
    (i34 : PySem.W.isFn K (.ref f34) = true)
    (l34 : K.lookup f34 = some ⟨oc34, od34, .func (PySem.W.fnOf "roads_from" "Map.roads_from" (defArgs s_Map_roads_from) (defBody s_Map_roads_from) (defScope s_Map_roads_from) .none kV34 dc34 pm34 an34 cd34 ct34), sl34⟩)
    (q34 : PySem.W.codeIn K cd34 "Map.roads_from" = true)
    (k34 : PySem.W.keepIn K (.ref f34) = true)
    (a35 : PySem.W.findIn K (.ref CM) "followers" = some (some (.ref f35)))
    (i35 : PySem.W.isFn K (.ref f35) = true)
    (l35 : K.lookup f35 = some ⟨oc35, od35, .func (PySem.W.fnOf "followers" "Map.followers" (defArgs s_Map_followers) (defBody s_Map_followers) (defScope s_Map_followers) .none kV35 dc35 pm35 an35 cd35 ct35), sl35⟩)
    (q35 : PySem.W.codeIn K cd35 "Map.followers" = true)
    (k35 : PySem.W.keepIn K (.ref f35) = true)
    (a36 : PySem.W.findIn K (.ref CN) "__init__" = some (some (.ref f36)))
    (i36 : PySem.W.isFn K (.ref f36) = true)
    (l36 : K.lookup f36 = some ⟨oc36, od36, .func (PySem.W.fnOf "__init__" "Net.__init__" (defArgs s_Net___init__) (defBody s_Net___init__) (defScope s_Net___init__) .none kV36 dc36 pm36 an36 cd36 ct36), sl36⟩)
    (q36 : PySem.W.codeIn K cd36 "Net.__init__" = true)
    (k36 : PySem.W.keepIn K (.ref f36) = true)
    (a37 : PySem.W.findIn K (.ref CN) "add" = some (some (.ref f37)))
    (i37 : PySem.W.isFn K (.ref f37) = true)
    (l37 : K.lookup f37 = some ⟨oc37, od37, .func (PySem.W.fnOf "add" "Net.add" (defArgs s_Net_add) (defBody s_Net_add) (defScope s_Net_add) .none kV37 dc37 pm37 an37 cd37 ct37), sl37⟩)
    (q37 : PySem.W.codeIn K cd37 "Net.add" = true)
    (k37 : PySem.W.keepIn K (.ref f37) = true)
    (a38 : PySem.W.findIn K (.ref CN) "found_from_start" = some (some (.ref f38)))
    (i38 : PySem.W.isFn K (.ref f38) = true)
    (l38 : K.lookup f38 = some ⟨oc38, od38, .func (PySem.W.fnOf "found_from_start" "Net.found_from_start" (defArgs s_Net_found_from_start) (defBody s_Net_found_from_start) (defScope s_Net_found_from_start) .none kV38 dc38 pm38 an38 cd38 ct38), sl38⟩)
    (q38 : PySem.W.codeIn K cd38 "Net.found_from_start" = true)
    (k38 : PySem.W.keepIn K (.ref f38) = true)
    (a39 : PySem.W.findIn K (.ref CN) "push" = some (some (.ref f39)))
    (i39 : PySem.W.isFn K (.ref f39) = true)
    (l39 : K.lookup f39 = some ⟨oc39, od39, .func (PySem.W.fnOf "push" "Net.push" (defArgs s_Net_push) (defBody s_Net_push) (defScope s_Net_push) .none kV39 dc39 pm39 an39 cd39 ct39), sl39⟩)
    (q39 : PySem.W.codeIn K cd39 "Net.push" = true)
    (k39 : PySem.W.keepIn K (.ref f39) = true)
    (a40 : PySem.W.findIn K (.ref CA) "__init__" = some (some (.ref f40)))
    (i40 : PySem.W.isFn K (.ref f40) = true)
    (l40 : K.lookup f40 = some ⟨oc40, od40, .func (PySem.W.fnOf "__init__" "Apart.__init__" (defArgs s_Apart___init__) (defBody s_Apart___init__) (defScope s_Apart___init__) .none kV40 dc40 pm40 an40 cd40 ct40), sl40⟩)
    (q40 : PySem.W.codeIn K cd40 "Apart.__init__" = true)
    (k40 : PySem.W.keepIn K (.ref f40) = true)
    (a41 : PySem.W.findIn K (.ref CM) "road_names" = some (some (.ref pR)))
    (pget : PySem.W.specialIn K (.ref pR) "__get__" = some (some (.builtin "property.__get__")))
    (ptak : PySem.W.takesIn K (.ref pR) = some true)
    (prec : PySem.W.recIn K pR "property" = some (.ref f41 :: restR))
    (l41 : K.lookup f41 = some ⟨oc41, od41, .func (PySem.W.fnOf "road_names" "Map.road_names" (defArgs s_Map_road_names) (defBody s_Map_road_names) (defScope s_Map_road_names) .none kV41 dc41 pm41 an41 cd41 ct41), sl41⟩)
    (q41 : PySem.W.codeIn K cd41 "Map.road_names" = true)
    (k41 : PySem.W.keepIn K (.ref f41) = true)
    (rMOST_NAME_CHARS : RelV (.int 12) uMOST_NAME_CHARS)
    (rMOST_DAY : RelV (.int 1440) uMOST_DAY)
    (rMOST_PLACES : RelV (.int 30) uMOST_PLACES)
    (rMOST_KINDS : RelV (.int 4) uMOST_KINDS)
    (rMOST_ROADS : RelV (.int 60) uMOST_ROADS)
    (rMOST_BARS : RelV (.int 40) uMOST_BARS)
    (rMOST_MINUTES : RelV (.int 1000) uMOST_MINUTES)
    (rMOST_HOURS : RelV (.int 4) uMOST_HOURS)
    (rROAD_PARTS : RelV (.int 6) uROAD_PARTS)
    (rNAME_CHARS : RelV (.str "abcdefghijklmnopqrstuvwxyz0123456789") uNAME_CHARS)
    : ∃ fd : FuncData, (∀ (s : Shared) (v : Value), BindsTo s fd ⟨[v], []⟩ [("_law_script", v)]) ∧ ∀ base : Heap, K.In base → base.Ns mainGlobals mg → FnOk l.prog w K mg base CX0 7 fa fd ["_law_script"] (spLaw K) := by
  have e := hfa.symm.trans (PySem.W.mg_of X G a28)
  cases e
  have T : Txt K mg CM CN CA := ⟨PySem.W.mg_none_of X G zlen, PySem.W.mg_none_of X G zabs, PySem.W.mg_none_of X G zmin, PySem.W.mg_none_of X G zmax, PySem.W.mg_none_of X G zall, PySem.W.mg_none_of X G zany, PySem.W.mg_none_of X G zsorted, PySem.W.mg_none_of X G zint, PySem.W.mg_none_of X G ztuple, PySem.W.mg_none_of X G zrange, PySem.W.mg_none_of X G zenumerate, ⟨_, PySem.W.mg_of X G gMOST_NAME_CHARS, rMOST_NAME_CHARS⟩, ⟨_, PySem.W.mg_of X G gMOST_DAY, rMOST_DAY⟩, ⟨_, PySem.W.mg_of X G gMOST_PLACES, rMOST_PLACES⟩, ⟨_, PySem.W.mg_of X G gMOST_KINDS, rMOST_KINDS⟩, ⟨_, PySem.W.mg_of X G gMOST_ROADS, rMOST_ROADS⟩, ⟨_, PySem.W.mg_of X G gMOST_BARS, rMOST_BARS⟩, ⟨_, PySem.W.mg_of X G gMOST_MINUTES, rMOST_MINUTES⟩, ⟨_, PySem.W.mg_of X G gMOST_HOURS, rMOST_HOURS⟩, ⟨_, PySem.W.mg_of X G gROAD_PARTS, rROAD_PARTS⟩, PySem.W.mg_of X G gNAME_CHARS |> fun h => ⟨_, h, rNAME_CHARS⟩, ⟨pgCM, hdCM, poCM, saCM⟩, ⟨pgCN, hdCN, poCN, saCN⟩, ⟨pgCA, hdCA, poCA, saCA⟩, nCMday, nCMplaces, nCMkinds, nCMroads, nCMbars, nCNleft, nCNahead, nCAroutes, nCAcut⟩
  have m1 := PySem.W.mg_of X G a1
  have F1 := fun_mk (st := s_require) l1 q1 k1
  have b1 := F1.binds (ps := p_require) fun _ _ _ _ _ _ us hl => match us, hl with | [_], _ => rfl
  have m2 := PySem.W.mg_of X G a2
  have F2 := fun_mk (st := s_is_name) l2 q2 k2
  have b2 := F2.binds (ps := p_is_name) fun _ _ _ _ _ _ us hl => match us, hl with | [_], _ => rfl
  have m3 := PySem.W.mg_of X G a3
  have F3 := fun_mk (st := s_are_different) l3 q3 k3
  have b3 := F3.binds (ps := p_are_different) fun _ _ _ _ _ _ us hl => match us, hl with | [_], _ => rfl
  have m4 := PySem.W.mg_of X G a4
  have F4 := fun_mk (st := s_are_hours) l4 q4 k4
  have b4 := F4.binds (ps := p_are_hours) fun _ _ _ _ _ _ us hl => match us, hl with | [_, _], _ => rfl
  have m5 := PySem.W.mg_of X G a5
  have F5 := fun_mk (st := s_name_of) l5 q5 k5
  have b5 := F5.binds (ps := p_name_of) fun _ _ _ _ _ _ us hl => match us, hl with | [_], _ => rfl
  have m6 := PySem.W.mg_of X G a6
  have F6 := fun_mk (st := s_check_ends) l6 q6 k6
  have b6 := F6.binds (ps := p_check_ends) fun _ _ _ _ _ _ us hl => match us, hl with | [_, _, _, _], _ => rfl
  have m7 := PySem.W.mg_of X G a7
  have F7 := fun_mk (st := s_is_open) l7 q7 k7
  have b7 := F7.binds (ps := p_is_open) fun _ _ _ _ _ _ us hl => match us, hl with | [_, _, _], _ => rfl
  have m8 := PySem.W.mg_of X G a8
  have F8 := fun_mk (st := s_usable) l8 q8 k8
  have b8 := F8.binds (ps := p_usable) fun _ _ _ _ _ _ us hl => match us, hl with | [_, _], _ => rfl
  have m9 := PySem.W.mg_of X G a9
  have F9 := fun_mk (st := s_road_behind) l9 q9 k9
  have b9 := F9.binds (ps := p_road_behind) fun _ _ _ _ _ _ us hl => match us, hl with | [_, _, _], _ => rfl
  have m10 := PySem.W.mg_of X G a10
  have F10 := fun_mk (st := s_routes_of) l10 q10 k10
  have b10 := F10.binds (ps := p_routes_of) fun _ _ _ _ _ _ us hl => match us, hl with | [_, _, _], _ => rfl
  have m11 := PySem.W.mg_of X G a11
  have F11 := fun_mk (st := s_apart) l11 q11 k11
  have b11 := F11.binds (ps := p_apart) fun _ _ _ _ _ _ us hl => match us, hl with | [_, _, _, _], _ => rfl
  have m12 := PySem.W.mg_of X G a12
  have FW : FunD K "is_way" "is_way" (defArgs s_is_way) (defBody s_is_way) (defScope s_is_way) [] [("without", V.ref TW)] f12 _ := ⟨⟨_, _, _, _, _, _, _, _, _, _, rfl, l12, q12, .inl ⟨rfl, rfl⟩, .inr ⟨DW, rfl, fun q hq => by rw [List.mem_singleton] at hq; subst hq; exact ⟨_, w1, rfl⟩⟩⟩, k12⟩
  have bW := FW.binds0 (ps := p_is_way) 4 (by simp) rfl fun D doc pm an cdv ct us ks h1 h2 => kc_way D doc pm an cdv ct us ks h1 h2
  have bW1 := FW.kbinds0 (ps := p_is_way) 4 ["without"] [] (fun us _ ws => us ++ ws) (by simp) (fun q hq => by cases hq) (fun h1 _ h3 => vals_app h1 h3) fun D doc pm an cdv ct us mv ws h1 h2 h3 => kc_way1 D doc pm an cdv ct us mv ws h1 h2 h3
  obtain ⟨dsW, vW, bW⟩ := bW
  obtain ⟨mvW, bW1⟩ := bW1
  have hdv : ∀ F, (dT K []).P F (V.ref TW) := fun F => Dq.tup (.inr ⟨_, _, _, w2, rfl, rfl, by decide, .nil⟩) .nil
  have m13 := PySem.W.mg_of X G a13
  have F13 := fun_mk (st := s_vital_roads) l13 q13 k13
  have b13 := F13.binds (ps := p_vital_roads) fun _ _ _ _ _ _ us hl => match us, hl with | [_, _, _, _], _ => rfl
  have m14 := PySem.W.mg_of X G a14
  have F14 := fun_mk (st := s_l_row) l14 q14 k14
  have b14 := F14.binds (ps := p_l_row) fun _ _ _ _ _ _ us hl => match us, hl with | [_, _], _ => rfl
  have m15 := PySem.W.mg_of X G a15
  have F15 := fun_mk (st := s_l_numbers) l15 q15 k15
  have b15 := F15.binds (ps := p_l_numbers) fun _ _ _ _ _ _ us hl => match us, hl with | [_, _], _ => rfl
  have m16 := PySem.W.mg_of X G a16
  have F16 := fun_mk (st := s_l_hours) l16 q16 k16
  have b16 := F16.binds (ps := p_l_hours) fun _ _ _ _ _ _ us hl => match us, hl with | [_, _, _], _ => rfl
  have m17 := PySem.W.mg_of X G a17
  have F17 := fun_mk (st := s_l_road) l17 q17 k17
  have b17 := F17.binds (ps := p_l_road) fun _ _ _ _ _ _ us hl => match us, hl with | [_, _, _, _, _, _], _ => rfl
  have m18 := PySem.W.mg_of X G a18
  have F18 := fun_mk (st := s_l_bars) l18 q18 k18
  have b18 := F18.binds (ps := p_l_bars) fun _ _ _ _ _ _ us hl => match us, hl with | [_, _, _], _ => rfl
  have m19 := PySem.W.mg_of X G a19
  have F19 := fun_mk (st := s_l_parts) l19 q19 k19
  have b19 := F19.binds (ps := p_l_parts) fun _ _ _ _ _ _ us hl => match us, hl with | [_, _], _ => rfl
  have m20 := PySem.W.mg_of X G a20
  have F20 := fun_mk (st := s_l_names) l20 q20 k20
  have b20 := F20.binds (ps := p_l_names) fun _ _ _ _ _ _ us hl => match us, hl with | [_, _], _ => rfl
  have m21 := PySem.W.mg_of X G a21
  have F21 := fun_mk (st := s_l_made) l21 q21 k21
  have b21 := F21.binds (ps := p_l_made) fun _ _ _ _ _ _ us hl => match us, hl with | [_], _ => rfl
  have m22 := PySem.W.mg_of X G a22
  have F22 := fun_mk (st := s_l_open) l22 q22 k22
  have b22 := F22.binds (ps := p_l_open) fun _ _ _ _ _ _ us hl => match us, hl with | [_, _], _ => rfl
  have m23 := PySem.W.mg_of X G a23
  have F23 := fun_mk (st := s_l_follows) l23 q23 k23
  have b23 := F23.binds (ps := p_l_follows) fun _ _ _ _ _ _ us hl => match us, hl with | [_, _, _], _ => rfl
  have m24 := PySem.W.mg_of X G a24
  have F24 := fun_mk (st := s_l_trip) l24 q24 k24
  have b24 := F24.binds (ps := p_l_trip) fun _ _ _ _ _ _ us hl => match us, hl with | [_, _, _], _ => rfl
  have m25 := PySem.W.mg_of X G a25
  have F25 := fun_mk (st := s_l_apart_trip) l25 q25 k25
  have b25 := F25.binds (ps := p_l_apart_trip) fun _ _ _ _ _ _ us hl => match us, hl with | [_, _, _], _ => rfl
  have m26 := PySem.W.mg_of X G a26
  have F26 := fun_mk (st := s_l_drawn_walk) l26 q26 k26
  have b26 := F26.binds (ps := p_l_drawn_walk) fun _ _ _ _ _ _ us hl => match us, hl with | [_, _, _, _, _, _], _ => rfl
  have m27 := PySem.W.mg_of X G a27
  have F27 := fun_mk (st := s_l_ended) l27 q27 k27
  have b27 := F27.binds (ps := p_l_ended) fun _ _ _ _ _ _ us hl => match us, hl with | [_, _, _], _ => rfl
  have m28 := PySem.W.mg_of X G a28
  have F29 : FunD K "__init__" "Map.__init__" (defArgs s_Map___init__) (defBody s_Map___init__) (defScope s_Map___init__) [] [("places", V.ref TM)] f29 _ := ⟨⟨_, _, _, _, _, _, _, _, _, _, rfl, l29, q29, .inl ⟨rfl, rfl⟩, .inr ⟨DM, rfl, fun q hq => by rw [List.mem_singleton] at hq; subst hq; exact ⟨_, x1, rfl⟩⟩⟩, k29⟩
  have b29 := F29.kbinds0 (ps := p_Map___init__) 1 mapKs [] (fun us _ ws => us ++ ws) (by simp) (fun q hq => by cases hq) (fun h1 _ h3 => vals_app h1 h3) fun D doc pm an cdv ct us mv ws h1 h2 h3 => kc_map D doc pm an cdv ct us mv ws h1 h2 h3
  obtain ⟨mvM, b29⟩ := b29
  have F30 := fun_mk (st := s_Map_checked) l30 q30 k30
  have b30 := F30.binds (ps := p_Map_checked) fun _ _ _ _ _ _ us hl => match us, hl with | [_, _], _ => rfl
  have F31 := fun_mk (st := s_Map_checked_bar) l31 q31 k31
  have b31 := F31.binds (ps := p_Map_checked_bar) fun _ _ _ _ _ _ us hl => match us, hl with | [_, _], _ => rfl
  have F32 := fun_mk (st := s_Map_road) l32 q32 k32
  have b32 := F32.binds (ps := p_Map_road) fun _ _ _ _ _ _ us hl => match us, hl with | [_, _], _ => rfl
  have F33 := fun_mk (st := s_Map_check_place) l33 q33 k33
  have b33 := F33.binds (ps := p_Map_check_place) fun _ _ _ _ _ _ us hl => match us, hl with | [_, _], _ => rfl
  have F34 := fun_mk (st := s_Map_roads_from) l34 q34 k34
  have b34 := F34.binds (ps := p_Map_roads_from) fun _ _ _ _ _ _ us hl => match us, hl with | [_, _], _ => rfl
  have F35 := fun_mk (st := s_Map_followers) l35 q35 k35
  have b35 := F35.binds (ps := p_Map_followers) fun _ _ _ _ _ _ us hl => match us, hl with | [_, _], _ => rfl
  have F36 : FunD K "__init__" "Net.__init__" (defArgs s_Net___init__) (defBody s_Net___init__) (defScope s_Net___init__) [] [] f36 _ := ⟨⟨_, _, _, _, _, _, _, _, _, _, rfl, l36, q36, .inl ⟨rfl, rfl⟩, .inl rfl⟩, k36⟩
  have b36 := F36.bindsN (ps := p_Net___init__) fun _ _ _ _ _ _ us hl => match us, hl with | [_, _, _, _, _], _ => rfl
  have F37 := fun_mk (st := s_Net_add) l37 q37 k37
  have b37 := F37.binds (ps := p_Net_add) fun _ _ _ _ _ _ us hl => match us, hl with | [_, _, _, _], _ => rfl
  have F38 := fun_mk (st := s_Net_found_from_start) l38 q38 k38
  have b38 := F38.binds (ps := p_Net_found_from_start) fun _ _ _ _ _ _ us hl => match us, hl with | [_], _ => rfl
  have F39 := fun_mk (st := s_Net_push) l39 q39 k39
  have b39 := F39.binds (ps := p_Net_push) fun _ _ _ _ _ _ us hl => match us, hl with | [_], _ => rfl
  have F40 : FunD K "__init__" "Apart.__init__" (defArgs s_Apart___init__) (defBody s_Apart___init__) (defScope s_Apart___init__) [] [] f40 _ := ⟨⟨_, _, _, _, _, _, _, _, _, _, rfl, l40, q40, .inl ⟨rfl, rfl⟩, .inl rfl⟩, k40⟩
  have b40 := F40.bindsN (ps := p_Apart___init__) fun _ _ _ _ _ _ us hl => match us, hl with | [_, _, _], _ => rfl
  have F41 := fun_mk (st := s_Map_road_names) l41 q41 k41
  have b41 := F41.binds (ps := p_Map_road_names) fun _ _ _ _ _ _ us hl => match us, hl with | [_], _ => rfl
  have PR : PropOf K CM "road_names" pR f41 := ⟨a41, pget, ptak, ⟨_, prec⟩⟩
  have F28 := fun_mk (st := s_law) l28 q28 k28
  refine ⟨PySem.W.fnOf "law" "law" (defArgs s_law) (defBody s_law) (defScope s_law) .none kV28 dc28 pm28 an28 cd28 ct28, fun s v => .of_eq rfl, fun base _ _ => ?_⟩
  have c_require : C8.Cal l.prog w K mg base 1 "require" (spReq K) [] := ⟨⟨_, _, _, _, ok_req F1 , m1, k1, b1, .nil⟩⟩
  have c_is_name : C8.Cal l.prog w K mg base 1 "is_name" (spName K) [] := ⟨⟨_, _, _, _, ok_name F2 T, m2, k2, b2, .nil⟩⟩
  have c_are_different : C8.Cal l.prog w K mg base 1 "are_different" (spDiff K) [] := ⟨⟨_, _, _, _, ok_diff F3 T, m3, k3, b3, .nil⟩⟩
  have c_are_hours : C8.Cal l.prog w K mg base 1 "are_hours" (spHours K) [] := ⟨⟨_, _, _, _, ok_hours F4 T, m4, k4, b4, .nil⟩⟩
  have c_Map_road : C8.Met l.prog w K mg base 1 CM "road" (spRoad K CM) [] := ⟨⟨_, _, _, _, T.clM, ⟨a32, i32, k32⟩, ok_road F32 T, b32, .nil⟩⟩
  have c_Map_check_place : C8.Met l.prog w K mg base 1 CM "check_place" (spPlace K CM) [] := ⟨⟨_, _, _, _, T.clM, ⟨a33, i33, k33⟩, ok_place F33 T, b33, .nil⟩⟩
  have c_Map_roads_from : C8.Met l.prog w K mg base 2 CM "roads_from" (spFrom K CM) [] := ⟨⟨_, _, _, _, T.clM, ⟨a34, i34, k34⟩, ok_from F34 T c_Map_check_place, b34, .nil⟩⟩
  have c_Map_followers : C8.Met l.prog w K mg base 3 CM "followers" (spFol K CM) [] := ⟨⟨_, _, _, _, T.clM, ⟨a35, i35, k35⟩, ok_fol F35 T c_Map_road c_Map_roads_from, b35, .nil⟩⟩
  have p_road_names : PropC l.prog w K mg base 1 CM "road_names" (spNames K CM) := ⟨⟨_, _, _, _, T.clM, PR, ok_names F41 T, b41⟩⟩
  have p_road_names4 : PropC l.prog w K mg base 1 CM "road_names" (spNames4 K CM) := ⟨⟨_, _, _, _, T.clM, PR, ok_names4 F41 T, b41⟩⟩
  have c_Map_road4 : C8.Met l.prog w K mg base 1 CM "road" (spRoad4 K CM) [] := ⟨⟨_, _, _, _, T.clM, ⟨a32, i32, k32⟩, ok_road4 F32 T, b32, .nil⟩⟩
  have c_Map_checked : C8.Met l.prog w K mg base 2 CM "checked" (spCk K CM) [] := ⟨⟨_, _, _, _, T.clM, ⟨a30, i30, k30⟩, ok_checked F30 T c_require c_is_name c_are_different c_are_hours, b30, .nil⟩⟩
  have c_Map_checked_bar : C8.Met l.prog w K mg base 3 CM "checked_bar" (spCb K CM) [] := ⟨⟨_, _, _, _, T.clM, ⟨a31, i31, k31⟩, ok_checked_bar F31 T c_require c_Map_road4 p_road_names4, b31, .nil⟩⟩
  have mk_Map : MakN l.prog w K mg base 4 "Map" CM mapKs (spMapI K CM) (fun xs us => xs ++ us) := ⟨⟨_, _, _, _, ⟨mkCM, a29, i29, kcCM⟩, ok_map_init F29 T c_require c_is_name c_are_different c_Map_checked c_Map_checked_bar p_road_names4 F5 m5 (fun kV doc pm an cdv ct us hl => match us, hl with | [_], _ => rfl), PySem.W.mg_of X G aCM, b29⟩⟩
  have c_is_open : C8.Cal l.prog w K mg base 2 "is_open" (spOpen K CM) [] := ⟨⟨_, _, _, _, ok_open F7 c_Map_road, m7, k7, b7, .nil⟩⟩
  have c_usable : C8.Cal l.prog w K mg base 3 "usable" (spUsable K CM) [] := ⟨⟨_, _, _, _, ok_usable F8 c_is_open p_road_names, m8, k8, b8, .nil⟩⟩
  have c_check_ends : C8.Cal l.prog w K mg base 2 "check_ends" (spEnds K CM) [] := ⟨⟨_, _, _, _, ok_ends F6 T c_Map_check_place, m6, k6, b6, .nil⟩⟩
  have WW := ok_way (P := l.prog) (w := w) (base := base) FW T c_usable c_Map_road c_Map_followers
  have c_is_way0 : C8.Cal l.prog w K mg base 4 "is_way" (spWay K CM) [V.ref TW] := ⟨⟨_, _, _, _, WW, m12, k12, bW, vW⟩⟩
  have c_is_way : CalN l.prog w K mg base 4 "is_way" 4 ["without"] (spWay K CM) (fun vs zs => vs ++ zs) := ⟨⟨_, _, _, _, WW, m12, k12, bW1⟩⟩
  have c_vital_roads : C8.Cal l.prog w K mg base 5 "vital_roads" (spVital K CM) [] := ⟨⟨_, _, _, _, ok_vital F13 c_usable c_check_ends hdv c_is_way0 c_is_way, m13, k13, b13, .nil⟩⟩
  have c_road_behind : C8.Cal l.prog w K mg base 1 "road_behind" (spBehind K w CN) [] := ⟨⟨_, _, _, _, ok_behind F9 T, m9, k9, b9, .nil⟩⟩
  have c_routes_of : C8.Cal l.prog w K mg base 2 "routes_of" (spRoutes K w CN) [] := ⟨⟨_, _, _, _, ok_routes F10 T c_road_behind, m10, k10, b10, .nil⟩⟩
  have c_Net_add : C8.Met l.prog w K mg base 1 CN "add" (SpAdd K w CN) [] := ⟨⟨_, _, _, _, T.clN, ⟨a37, i37, k37⟩, ok_add F37 T, b37, .nil⟩⟩
  have c_Net_found_from_start : C8.Met l.prog w K mg base 1 CN "found_from_start" (spFnd K w CN) [] := ⟨⟨_, _, _, _, T.clN, ⟨a38, i38, k38⟩, ok_found F38 T, b38, .nil⟩⟩
  have c_Net_push : C8.Met l.prog w K mg base 2 CN "push" (spPush K w CN) [] := ⟨⟨_, _, _, _, T.clN, ⟨a39, i39, k39⟩, ok_push F39 T c_Net_found_from_start, b39, .nil⟩⟩
  have mk_Net : C8.Mak l.prog w K mg base 4 "Net" CN (spNetI K w CM CN) [] := ⟨⟨_, _, _, _, ⟨mkCN, a36, i36, kcCN⟩, ok_net_init F36 T c_usable c_is_open c_Map_road c_Map_followers c_Net_add, PySem.W.mg_of X G aCN, b36, .nil⟩⟩
  have mk_Apart : C8.Mak l.prog w K mg base 1 "Apart" CA (spApart K CA) [] := ⟨⟨_, _, _, _, ⟨mkCA, a40, i40, kcCA⟩, ok_apart_init F40 T, PySem.W.mg_of X G aCA, b40, .nil⟩⟩
  have c_apart : C8.Cal l.prog w K mg base 6 "apart" (spApt K CM CA) [] := ⟨⟨_, _, _, _, ok_apart F11 c_check_ends mk_Net c_Net_push c_usable c_Map_road c_Net_found_from_start c_routes_of mk_Apart, m11, k11, b11, .nil⟩⟩
  have c_l_row : C8.Cal l.prog w K mg base 1 "_law_row" (spRow K) [] := ⟨⟨_, _, _, _, ok_row F14 T, m14, k14, b14, .nil⟩⟩
  have c_l_numbers : C8.Cal l.prog w K mg base 2 "_law_numbers" (spNumbers K) [] := ⟨⟨_, _, _, _, ok_numbers F15 T c_l_row, m15, k15, b15, .nil⟩⟩
  have c_l_hours : C8.Cal l.prog w K mg base 1 "_law_hours" (spHrs K) [] := ⟨⟨_, _, _, _, ok_hrs F16 T, m16, k16, b16, .nil⟩⟩
  have c_l_road : C8.Cal l.prog w K mg base 2 "_law_road" (spRdL K) [] := ⟨⟨_, _, _, _, ok_rdl F17 T c_l_hours, m17, k17, b17, .nil⟩⟩
  have c_l_bars : C8.Cal l.prog w K mg base 1 "_law_bars" (spBarL K) [] := ⟨⟨_, _, _, _, ok_barl F18 T, m18, k18, b18, .nil⟩⟩
  have c_l_names : C8.Cal l.prog w K mg base 1 "_law_names" (spNms K) [] := ⟨⟨_, _, _, _, ok_nms F20 T, m20, k20, b20, .nil⟩⟩
  have c_l_parts : C8.Cal l.prog w K mg base 3 "_law_parts" (spPrt K) [] := ⟨⟨_, _, _, _, ok_prt F19 T c_l_names c_l_road c_l_bars, m19, k19, b19, .nil⟩⟩
  have c_l_made : C8.Cal l.prog w K mg base 6 "_law_made" (spMade K CM) [] := ⟨⟨_, _, _, _, ok_made F21 T mk_Map, m21, k21, b21, .nil⟩⟩
  have c_l_open : C8.Cal l.prog w K mg base 1 "_law_open" (spOpn K) [] := ⟨⟨_, _, _, _, ok_opn F22 T, m22, k22, b22, .nil⟩⟩
  have c_l_follows : C8.Cal l.prog w K mg base 1 "_law_follows" (spFlw K) [] := ⟨⟨_, _, _, _, ok_flw F23 T, m23, k23, b23, .nil⟩⟩
  have c_l_trip : C8.Cal l.prog w K mg base 1 "_law_trip" (spTrp K) [] := ⟨⟨_, _, _, _, ok_trp F24 T, m24, k24, b24, .nil⟩⟩
  have c_l_apart_trip : C8.Cal l.prog w K mg base 2 "_law_apart_trip" (spATrp K) [] := ⟨⟨_, _, _, _, ok_atrp F25 T c_l_trip, m25, k25, b25, .nil⟩⟩
  have c_l_drawn_walk : C8.Cal l.prog w K mg base 2 "_law_drawn_walk" (spDrw K) [] := ⟨⟨_, _, _, _, ok_drw F26 T c_l_open c_l_follows, m26, k26, b26, .nil⟩⟩
  have c_l_ended : C8.Cal l.prog w K mg base 1 "_law_ended" (spEnd K) [] := ⟨⟨_, _, _, _, ok_end F27 T, m27, k27, b27, .nil⟩⟩
  exact ok_law F28 T c_l_numbers c_l_parts c_l_apart_trip c_l_made c_apart c_vital_roads c_l_drawn_walk c_l_ended
theorem walk {l : PySem.W.OpenLaw} {q : Program} {loose : List Str} {XP : (Str → Option Value) → Heap → Prop} {YP : World → Heap → Prop} {d : DefRec} {K : Params → PySem.W.Frag} (hn : l.most = some 63) (hdf : d.params.defaults = [])
    (hY : ∀ (w : World) (h : Heap), YP w h → (K w.params).In h)
    (F : ∀ (w : World) (mg : Str → Option Value) (fa : Addr) (h : Heap), (K w.params).In h → h.Ns mainGlobals mg → mg d.name = some (.ref fa) →
      ∃ fd : FuncData, (∀ (s : Shared) (u : Value), BindsTo s fd ⟨[u], []⟩ [("_law_script", u)]) ∧ ∀ base : Heap, (K w.params).In base → base.Ns mainGlobals mg → FnOk l.prog w (K w.params) mg base CX0 7 fa fd ["_law_script"] (spLaw (K w.params))) :
    PySem.W.WalkO q loose XP YP l.row.toRowW d [] (fun f vs => PySem.call f vs) :=
  L2.walk_of (n := 63) (k := 7) (x := "_law_script") (CX := fun _ => CX0) (sp := fun w => spLaw (K w.params)) hn (by decide) hdf ⟨rfl, by decide, by decide⟩ hY F (fun w H a ns hl hO hS => law_sp hl hS) fun _ _ _ _ _ z => z
end Wp

open PySem PySem.W PyProof.Rows in
set_option maxRecDepth 100000 in
set_option maxHeartbeats 0 in
theorem PySem.Challenge.cw_waypapers_k42_whole_every_way_is_cut_holds : PySem.Challenge.rw_waypapers_k42_whole_every_way_is_cut.Holds := by
  w_on; o_law; k_head; (case hw => w_witness2)
  k_fill
  refine Wp.walk (l := PySem.Challenge.rw_waypapers_k42_whole_every_way_is_cut) rfl rfl (fun w h Y => PySem.W.kIn_of Y) ?F
  case F =>
    intro w mg fa h KX G hmg
    refine' Wp.all_mk KX G hmg ?aCM ?pgCM ?hdCM ?poCM ?saCM ?mkCM ?kcCM ?aCN ?pgCN ?hdCN ?poCN ?saCN ?mkCN ?kcCN ?aCA ?pgCA ?hdCA ?poCA ?saCA ?mkCA ?kcCA ?nCMday ?nCMplaces ?nCMkinds ?nCMroads ?nCMbars ?nCNleft ?nCNahead ?nCAroutes ?nCAcut ?zlen ?zabs ?zmin ?zmax ?zall ?zany ?zsorted ?zint ?ztuple ?zrange ?zenumerate ?gMOST_NAME_CHARS ?gMOST_DAY ?gMOST_PLACES ?gMOST_KINDS ?gMOST_ROADS ?gMOST_BARS ?gMOST_MINUTES ?gMOST_HOURS ?gROAD_PARTS ?gNAME_CHARS ?a1 ?l1 ?q1 ?k1 ?a2 ?l2 ?q2 ?k2 ?a3 ?l3 ?q3 ?k3 ?a4 ?l4 ?q4 ?k4 ?a5 ?l5 ?q5 ?k5 ?a6 ?l6 ?q6 ?k6 ?a7 ?l7 ?q7 ?k7 ?a8 ?l8 ?q8 ?k8 ?a9 ?l9 ?q9 ?k9 ?a10 ?l10 ?q10 ?k10 ?a11 ?l11 ?q11 ?k11 ?a12 ?l12 ?q12 ?k12 ?w1 ?w2 ?a13 ?l13 ?q13 ?k13 ?a14 ?l14 ?q14 ?k14 ?a15 ?l15 ?q15 ?k15 ?a16 ?l16 ?q16 ?k16 ?a17 ?l17 ?q17 ?k17 ?a18 ?l18 ?q18 ?k18 ?a19 ?l19 ?q19 ?k19 ?a20 ?l20 ?q20 ?k20 ?a21 ?l21 ?q21 ?k21 ?a22 ?l22 ?q22 ?k22 ?a23 ?l23 ?q23 ?k23 ?a24 ?l24 ?q24 ?k24 ?a25 ?l25 ?q25 ?k25 ?a26 ?l26 ?q26 ?k26 ?a27 ?l27 ?q27 ?k27 ?a28 ?l28 ?q28 ?k28 ?a29 ?i29 ?l29 ?q29 ?k29 ?x1 ?a30 ?i30 ?l30 ?q30 ?k30 ?a31 ?i31 ?l31 ?q31 ?k31 ?a32 ?i32 ?l32 ?q32 ?k32 ?a33 ?i33 ?l33 ?q33 ?k33 ?a34 ?i34 ?l34 ?q34 ?k34 ?a35 ?i35 ?l35 ?q35 ?k35 ?a36 ?i36 ?l36 ?q36 ?k36 ?a37 ?i37 ?l37 ?q37 ?k37 ?a38 ?i38 ?l38 ?q38 ?k38 ?a39 ?i39 ?l39 ?q39 ?k39 ?a40 ?i40 ?l40 ?q40 ?k40 ?a41 ?pget ?ptak ?prec ?l41 ?q41 ?k41 ?rMOST_NAME_CHARS ?rMOST_DAY ?rMOST_PLACES ?rMOST_KINDS ?rMOST_ROADS ?rMOST_BARS ?rMOST_MINUTES ?rMOST_HOURS ?rROAD_PARTS ?rNAME_CHARS
    (case aCM => k_is)
    (case pgCM => k_is)
    (case hdCM => k_is)
    (case poCM => k_is)
    (case saCM => k_is)
    (case mkCM => k_is)
    (case kcCM => k_is)
    (case aCN => k_is)
    (case pgCN => k_is)
    (case hdCN => k_is)
    (case poCN => k_is)
    (case saCN => k_is)
    (case mkCN => k_is)
    (case kcCN => k_is)
    (case aCA => k_is)
    (case pgCA => k_is)
    (case hdCA => k_is)
    (case poCA => k_is)
    (case saCA => k_is)
    (case mkCA => k_is)
    (case kcCA => k_is)
    (case nCMday => k_is)
    (case nCMplaces => k_is)
    (case nCMkinds => k_is)
    (case nCMroads => k_is)
    (case nCMbars => k_is)
    (case nCNleft => k_is)
    (case nCNahead => k_is)
    (case nCAroutes => k_is)
    (case nCAcut => k_is)
    (case zlen => k_is)
    (case zabs => k_is)
    (case zmin => k_is)
    (case zmax => k_is)
    (case zall => k_is)
    (case zany => k_is)
    (case zsorted => k_is)
    (case zint => k_is)
    (case ztuple => k_is)
    (case zrange => k_is)
    (case zenumerate => k_is)
    (case gMOST_NAME_CHARS => k_is)
    (case gMOST_DAY => k_is)
    (case gMOST_PLACES => k_is)
    (case gMOST_KINDS => k_is)
    (case gMOST_ROADS => k_is)
    (case gMOST_BARS => k_is)
    (case gMOST_MINUTES => k_is)
    (case gMOST_HOURS => k_is)
    (case gROAD_PARTS => k_is)
    (case gNAME_CHARS => k_is)
    (case a1 => k_is)
    (case l1 => k_is)
    (case q1 => k_is)
    (case k1 => k_is)
    (case a2 => k_is)
    (case l2 => k_is)
    (case q2 => k_is)
    (case k2 => k_is)
    (case a3 => k_is)
    (case l3 => k_is)
    (case q3 => k_is)
    (case k3 => k_is)
    (case a4 => k_is)
    (case l4 => k_is)
    (case q4 => k_is)
    (case k4 => k_is)
    (case a5 => k_is)
    (case l5 => k_is)
    (case q5 => k_is)
    (case k5 => k_is)
    (case a6 => k_is)
    (case l6 => k_is)
    (case q6 => k_is)
    (case k6 => k_is)
    (case a7 => k_is)
    (case l7 => k_is)
    (case q7 => k_is)
    (case k7 => k_is)
    (case a8 => k_is)
    (case l8 => k_is)
    (case q8 => k_is)
    (case k8 => k_is)
    (case a9 => k_is)
    (case l9 => k_is)
    (case q9 => k_is)
    (case k9 => k_is)
    (case a10 => k_is)
    (case l10 => k_is)
    (case q10 => k_is)
    (case k10 => k_is)
    (case a11 => k_is)
    (case l11 => k_is)
    (case q11 => k_is)
    (case k11 => k_is)
    (case a12 => k_is)
    (case l12 => k_is)
    (case q12 => k_is)
    (case k12 => k_is)
    (case w1 => k_is)
    (case w2 => k_is)
    (case a13 => k_is)
    (case l13 => k_is)
    (case q13 => k_is)
    (case k13 => k_is)
    (case a14 => k_is)
    (case l14 => k_is)
    (case q14 => k_is)
    (case k14 => k_is)
    (case a15 => k_is)
    (case l15 => k_is)
    (case q15 => k_is)
    (case k15 => k_is)
    (case a16 => k_is)
    (case l16 => k_is)
    (case q16 => k_is)
    (case k16 => k_is)
    (case a17 => k_is)
    (case l17 => k_is)
    (case q17 => k_is)
    (case k17 => k_is)
    (case a18 => k_is)
    (case l18 => k_is)
    (case q18 => k_is)
    (case k18 => k_is)
    (case a19 => k_is)
    (case l19 => k_is)
    (case q19 => k_is)
    (case k19 => k_is)
    (case a20 => k_is)
    (case l20 => k_is)
    (case q20 => k_is)
    (case k20 => k_is)
    (case a21 => k_is)
    (case l21 => k_is)
    (case q21 => k_is)
    (case k21 => k_is)
    (case a22 => k_is)
    (case l22 => k_is)
    (case q22 => k_is)
    (case k22 => k_is)
    (case a23 => k_is)
    (case l23 => k_is)
    (case q23 => k_is)
    (case k23 => k_is)
    (case a24 => k_is)
    (case l24 => k_is)
    (case q24 => k_is)
    (case k24 => k_is)
    (case a25 => k_is)
    (case l25 => k_is)
    (case q25 => k_is)
    (case k25 => k_is)
    (case a26 => k_is)
    (case l26 => k_is)
    (case q26 => k_is)
    (case k26 => k_is)
    (case a27 => k_is)
    (case l27 => k_is)
    (case q27 => k_is)
    (case k27 => k_is)
    (case a28 => k_is)
    (case l28 => k_is)
    (case q28 => k_is)
    (case k28 => k_is)
    (case a29 => k_is)
    (case i29 => k_is)
    (case l29 => k_is)
    (case q29 => k_is)
    (case k29 => k_is)
    (case x1 => k_is)
    (case a30 => k_is)
    (case i30 => k_is)
    (case l30 => k_is)
    (case q30 => k_is)
    (case k30 => k_is)
    (case a31 => k_is)
    (case i31 => k_is)
    (case l31 => k_is)
    (case q31 => k_is)
    (case k31 => k_is)
    (case a32 => k_is)
    (case i32 => k_is)
    (case l32 => k_is)
    (case q32 => k_is)
    (case k32 => k_is)
    (case a33 => k_is)
    (case i33 => k_is)
    (case l33 => k_is)
    (case q33 => k_is)
    (case k33 => k_is)
    (case a34 => k_is)
    (case i34 => k_is)
    (case l34 => k_is)
    (case q34 => k_is)
    (case k34 => k_is)
    (case a35 => k_is)
    (case i35 => k_is)
    (case l35 => k_is)
    (case q35 => k_is)
    (case k35 => k_is)
    (case a36 => k_is)
    (case i36 => k_is)
    (case l36 => k_is)
    (case q36 => k_is)
    (case k36 => k_is)
    (case a37 => k_is)
    (case i37 => k_is)
    (case l37 => k_is)
    (case q37 => k_is)
    (case k37 => k_is)
    (case a38 => k_is)
    (case i38 => k_is)
    (case l38 => k_is)
    (case q38 => k_is)
    (case k38 => k_is)
    (case a39 => k_is)
    (case i39 => k_is)
    (case l39 => k_is)
    (case q39 => k_is)
    (case k39 => k_is)
    (case a40 => k_is)
    (case i40 => k_is)
    (case l40 => k_is)
    (case q40 => k_is)
    (case k40 => k_is)
    (case a41 => k_is)
    (case pget => k_is)
    (case ptak => k_is)
    (case prec => k_is)
    (case l41 => k_is)
    (case q41 => k_is)
    (case k41 => k_is)
    (case rMOST_NAME_CHARS => exact ⟨_, rfl⟩)
    (case rMOST_DAY => exact ⟨_, rfl⟩)
    (case rMOST_PLACES => exact ⟨_, rfl⟩)
    (case rMOST_KINDS => exact ⟨_, rfl⟩)
    (case rMOST_ROADS => exact ⟨_, rfl⟩)
    (case rMOST_BARS => exact ⟨_, rfl⟩)
    (case rMOST_MINUTES => exact ⟨_, rfl⟩)
    (case rMOST_HOURS => exact ⟨_, rfl⟩)
    (case rROAD_PARTS => exact ⟨_, rfl⟩)
    (case rNAME_CHARS => exact ⟨_, rfl⟩)
