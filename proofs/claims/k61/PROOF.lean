import PyProof.Rows.All
import Wide.All
import OpenK.AllK
import Wide.FinOn
import HandS.ForMost
import HandS.DictComp
import HandS.IsInst
import HandS.ListItems
import HandS.Conv
import HandS.TupAny
import HandS.Style
import HandS.Deep
import HandS.Zip
import HandS.Star
import HandS.Strs
import KE.GoesEnum
import KE.GoesMore
import KE.GoesZip
import HandS.SortRule
import HandS.SortOrd
import HandS.ReCall
import KE.KDictZip
import KE.KItemsList
import KE.KTurns
import PySem.Challenge.RW_dealhouse_k61_main_wanting_rings_passed
set_option Elab.async false
set_option linter.all false
set_option maxRecDepth 100000
/-! Y: data (D) over the abstract heap, what a def owns (OO), abstract readings (wE, wT, wA, wS). -/
namespace Y
open PySem L2

/-- plain data (rt: a tuple made by tuple(), whose object is known) -/
inductive D where
  | non | bl (b : Bool) | int (i : Int) | str (s : Str) | lst (l : List D) | tup (l : List D) | rt (l : List D) | dct (l : List (Str × D)) | obj (C : Addr) (l : List (Str × D))

theorem seqT {K : PySem.W.Frag} {H H' : Hp} {a : Addr} {xs : List V} (e : Same H H') (h : SqT K H a xs) : SqT K H' a xs := by
  rcases h with (h | ⟨o, h⟩) | h
  · exact .inl (.inl (e _ _ h))
  · exact .inl (.inr ⟨o, e _ _ h⟩)
  · exact .inr h

/-- v stands for the data d in the heap G -/
inductive Den (K : PySem.W.Frag) (G : Hp) : V → D → Prop where
  | non : Den K G .non .non
  | bl (b : Bool) : Den K G (.bl b) (.bl b)
  | int (i : Int) : Den K G (.int i) (.int i)
  | str (s : Str) : Den K G (.str s) (.str s)
  | lst {a : Addr} {xs : List V} {ds : List D} (h : G a = some (.lst xs)) (hl : xs.length = ds.length) (hd : ∀ (i : Nat) (x : V) (d : D), xs[i]? = some x → ds[i]? = some d → Den K G x d) : Den K G (.ref a) (.lst ds)
  | tup {a : Addr} {xs : List V} {ds : List D} (h : SqT K G a xs) (hl : xs.length = ds.length) (hd : ∀ (i : Nat) (x : V) (d : D), xs[i]? = some x → ds[i]? = some d → Den K G x d) : Den K G (.ref a) (.tup ds)
  | rt {a : Addr} {o : Obj} {xs : List V} {ds : List D} (h : G a = some (.frz o (.tup xs))) (hn : o.dict = none) (hl : xs.length = ds.length) (hd : ∀ (i : Nat) (x : V) (d : D), xs[i]? = some x → ds[i]? = some d → Den K G x d) : Den K G (.ref a) (.rt ds)
  | dct {a : Addr} {o : Obj} {ps : List (Key × V)} {kvs : List (Str × D)} (h : G a = some (.frz o (.dK ps))) (hk : ps.map (·.1) = kvs.map (fun p => (Sum.inr p.1 : Key))) (hd : ∀ (i : Nat) (p : Key × V) (q : Str × D), ps[i]? = some p → kvs[i]? = some q → Den K G p.2 q.2) : Den K G (.ref a) (.dct kvs)
  | obj {a dx C : Addr} {ps : List (Str × V)} {fs : List (Str × D)} (h : G a = some (.ins C dx ps)) (hk : ps.map (·.1) = fs.map (·.1)) (hd : ∀ (i : Nat) (p : Str × V) (q : Str × D), ps[i]? = some p → fs[i]? = some q → Den K G p.2 q.2) : Den K G (.ref a) (.obj C fs)

variable {K : PySem.W.Frag}
theorem Den.mono {G G' : Hp} (e : Same G G') {v : V} {d : D} (h : Den K G v d) : Den K G' v d := by
  induction h with
  | non => exact .non
  | bl b => exact .bl b
  | int i => exact .int i
  | str s => exact .str s
  | lst h hl _ ih => exact .lst (e _ _ h) hl ih
  | tup h hl _ ih => exact .tup (seqT e h) hl ih
  | rt h hn hl _ ih => exact .rt (e _ _ h) hn hl ih
  | dct h hk _ ih => exact .dct (e _ _ h) hk ih
  | obj h hk _ ih => exact .obj (e _ _ h) hk ih

/-- a row of values stands for a row of data -/
structure Dens (K : PySem.W.Frag) (G : Hp) (xs : List V) (ds : List D) : Prop where
  len : xs.length = ds.length
  at' : ∀ (i : Nat) (x : V) (d : D), xs[i]? = some x → ds[i]? = some d → Den K G x d
theorem Dens.mono {G G' : Hp} (e : Same G G') {xs : List V} {ds : List D} (h : Dens K G xs ds) : Dens K G' xs ds := ⟨h.len, fun i x d a b => (h.at' i x d a b).mono e⟩
theorem Dens.nil {G : Hp} : Dens K G [] [] := ⟨rfl, fun i x d a b => by simp at a⟩
theorem Dens.cons {G : Hp} {x : V} {d : D} {xs : List V} {ds : List D} (h : Den K G x d) (t : Dens K G xs ds) : Dens K G (x :: xs) (d :: ds) := by
  refine ⟨by simp [t.len], fun i y e a b => ?_⟩
  cases i with
  | zero => simp at a b; subst a b; exact h
  | succ i => simp at a b; exact t.at' i y e a b
theorem Dens.get {G : Hp} {xs : List V} {ds : List D} (h : Dens K G xs ds) {i : Nat} {d : D} (e : ds[i]? = some d) : ∃ x, xs[i]? = some x ∧ Den K G x d := by
  have hi : i < ds.length := (List.getElem?_eq_some_iff.mp e).1
  have hx : i < xs.length := by rw [h.len]; exact hi
  exact ⟨xs[i], List.getElem?_eq_getElem hx, h.at' i _ d (List.getElem?_eq_getElem hx) e⟩
theorem Dens.get' {G : Hp} {xs : List V} {ds : List D} (h : Dens K G xs ds) {i : Nat} {x : V} (e : xs[i]? = some x) : ∃ d, ds[i]? = some d ∧ Den K G x d := by
  have hi : i < xs.length := (List.getElem?_eq_some_iff.mp e).1
  have hx : i < ds.length := by rw [← h.len]; exact hi
  exact ⟨ds[i], List.getElem?_eq_getElem hx, h.at' i x _ e (List.getElem?_eq_getElem hx)⟩
theorem Dens.nil_of {G : Hp} {xs : List V} (h : Dens K G xs []) : xs = [] := List.eq_nil_of_length_eq_zero h.len
theorem Dens.uncons {G : Hp} {xs : List V} {d : D} {ds : List D} (h : Dens K G xs (d :: ds)) : ∃ x r, xs = x :: r ∧ Den K G x d ∧ Dens K G r ds := by
  cases xs with
  | nil => have := h.len; simp at this
  | cons x r => exact ⟨x, r, rfl, h.at' 0 x d rfl rfl, ⟨by have := h.len; simpa using this, fun i y e a b => h.at' (i + 1) y e (by simpa using a) (by simpa using b)⟩⟩
theorem Dens.append {G : Hp} {xs ys : List V} {ds es : List D} (h : Dens K G xs ds) (g : Dens K G ys es) : Dens K G (xs ++ ys) (ds ++ es) := by
  refine ⟨by simp [h.len, g.len], fun i x d a b => ?_⟩
  by_cases hi : i < xs.length
  · rw [List.getElem?_append_left hi] at a
    rw [List.getElem?_append_left (by rw [← h.len]; exact hi)] at b
    exact h.at' i x d a b
  · rw [List.getElem?_append_right (by omega)] at a
    rw [List.getElem?_append_right (by rw [← h.len]; omega)] at b
    rw [← h.len] at b
    exact g.at' _ x d a b
theorem Dens.take {G : Hp} {xs : List V} {ds : List D} (n : Nat) (h : Dens K G xs ds) : Dens K G (xs.take n) (ds.take n) := by
  refine ⟨by simp [h.len], fun i x d a b => ?_⟩
  rw [List.getElem?_take] at a b
  by_cases hi : i < n
  · rw [if_pos hi] at a b; exact h.at' i x d a b
  · rw [if_neg hi] at a; cases a
theorem Dens.drop {G : Hp} {xs : List V} {ds : List D} (n : Nat) (h : Dens K G xs ds) : Dens K G (xs.drop n) (ds.drop n) := by
  refine ⟨by simp [h.len], fun i x d a b => ?_⟩
  rw [List.getElem?_drop] at a b
  exact h.at' _ x d a b
theorem Dens.set {G : Hp} {xs : List V} {ds : List D} (n : Nat) {v : V} {e : D} (h : Dens K G xs ds) (he : Den K G v e) : Dens K G (xs.set n v) (ds.set n e) := by
  refine ⟨by simp [h.len], fun i x d a b => ?_⟩
  rw [List.getElem?_set] at a b
  by_cases hi : n = i
  · rw [if_pos hi] at a b
    split at a
    · split at b
      · cases a; cases b; exact he
      · cases b
    · cases a
  · rw [if_neg hi] at a b; exact h.at' i x d a b
theorem Dens.reverse {G : Hp} {xs : List V} {ds : List D} (h : Dens K G xs ds) : Dens K G xs.reverse ds.reverse := by
  refine ⟨by simp [h.len], fun i x d a b => ?_⟩
  have hi : i < xs.length := by have := (List.getElem?_eq_some_iff.mp a).1; simpa using this
  rw [List.getElem?_reverse hi] at a
  rw [List.getElem?_reverse (by rw [← h.len]; exact hi)] at b
  rw [← h.len] at b
  exact h.at' _ x d a b
/-- strings alone: the values are these strings -/
theorem Dens.strs {G : Hp} : ∀ {ys : List Str} {xs : List V}, Dens K G xs (ys.map D.str) → xs = ys.map V.str
  | [], xs, h => h.nil_of
  | y :: ys, xs, h => by
    obtain ⟨x, r, rfl, hx, hr⟩ := Dens.uncons (d := D.str y) (ds := ys.map D.str) h
    cases hx
    rw [Dens.strs hr]; rfl
theorem Dens.of_strs {G : Hp} (ys : List Str) : Dens K G (ys.map V.str) (ys.map D.str) := by
  induction ys with
  | nil => exact .nil
  | cons y ys ih => exact Dens.cons (.str y) ih
theorem Dens.bls {G : Hp} : ∀ {ys : List Bool} {xs : List V}, Dens K G xs (ys.map D.bl) → xs = ys.map V.bl
  | [], xs, h => h.nil_of
  | y :: ys, xs, h => by
    obtain ⟨x, r, rfl, hx, hr⟩ := Dens.uncons (d := D.bl y) (ds := ys.map D.bl) h
    cases hx
    rw [Dens.bls hr]; rfl
theorem Dens.ints {G : Hp} : ∀ {ys : List Int} {xs : List V}, Dens K G xs (ys.map D.int) → xs = ys.map V.int
  | [], xs, h => h.nil_of
  | y :: ys, xs, h => by
    obtain ⟨x, r, rfl, hx, hr⟩ := Dens.uncons (d := D.int y) (ds := ys.map D.int) h
    cases hx
    rw [Dens.ints hr]; rfl

/-- pairs of a dict with text keys -/
structure DenK (K : PySem.W.Frag) (G : Hp) (ps : List (Key × V)) (kvs : List (Str × D)) : Prop where
  keys : ps.map (·.1) = kvs.map (fun p => (Sum.inr p.1 : Key))
  at' : ∀ (i : Nat) (p : Key × V) (q : Str × D), ps[i]? = some p → kvs[i]? = some q → Den K G p.2 q.2
theorem DenK.len {G : Hp} {ps : List (Key × V)} {kvs : List (Str × D)} (h : DenK K G ps kvs) : ps.length = kvs.length := by
  have := congrArg List.length h.keys
  simpa using this
theorem DenK.mono {G G' : Hp} (e : Same G G') {ps : List (Key × V)} {kvs : List (Str × D)} (h : DenK K G ps kvs) : DenK K G' ps kvs := ⟨h.keys, fun i p q a b => (h.at' i p q a b).mono e⟩
theorem DenK.nil {G : Hp} : DenK K G [] [] := ⟨rfl, fun i x d a b => by simp at a⟩
theorem DenK.cons {G : Hp} {k : Str} {v : V} {d : D} {ps : List (Key × V)} {kvs : List (Str × D)} (h : Den K G v d) (t : DenK K G ps kvs) : DenK K G ((.inr k, v) :: ps) ((k, d) :: kvs) := by
  refine ⟨by simp [t.keys], fun i y e a b => ?_⟩
  cases i with
  | zero => simp at a b; subst a b; exact h
  | succ i => simp at a b; exact t.at' i y e a b
theorem DenK.uncons {G : Hp} {ps : List (Key × V)} {k : Str} {d : D} {kvs : List (Str × D)} (h : DenK K G ps ((k, d) :: kvs)) : ∃ v r, ps = (.inr k, v) :: r ∧ Den K G v d ∧ DenK K G r kvs := by
  cases ps with
  | nil => have := h.keys; simp at this
  | cons p r =>
    obtain ⟨k', v⟩ := p
    have hk := h.keys
    simp at hk
    obtain ⟨e1, e2⟩ := hk
    subst e1
    exact ⟨v, r, rfl, h.at' 0 _ _ rfl rfl, ⟨e2, fun i y e a b => h.at' (i + 1) y e (by simpa using a) (by simpa using b)⟩⟩
theorem DenK.nil_of {G : Hp} {ps : List (Key × V)} (h : DenK K G ps []) : ps = [] := List.eq_nil_of_length_eq_zero h.len

/-! ### dicts as lists of pairs -/
def lookD : List (Str × D) → Str → Option D
  | [], _ => none
  | (k, d) :: r, x => if k = x then some d else lookD r x
def putD (kvs : List (Str × D)) (k : Str) (d : D) : List (Str × D) := if (kvs.any fun p => decide (p.1 = k)) = true then kvs.map (fun p => if p.1 = k then (p.1, d) else p) else kvs ++ [(k, d)]
theorem valV_cons {κ : Type} [DecidableEq κ] (k : κ) (v : V) (r : List (κ × V)) (x : κ) : valV ((k, v) :: r) x = if k = x then some v else valV r x := by
  unfold valV
  rw [List.find?_cons]
  by_cases h : k = x
  · simp [h]
  · simp [h]
theorem DenK.look {G : Hp} : ∀ {kvs : List (Str × D)} {ps : List (Key × V)} (x : Str), DenK K G ps kvs → (lookD kvs x = none → valV ps (.inr x : Key) = none) ∧ ∀ d, lookD kvs x = some d → ∃ v, valV ps (.inr x : Key) = some v ∧ Den K G v d
  | [], ps, x, h => by
    obtain rfl := h.nil_of
    exact ⟨fun _ => rfl, fun d e => by simp [lookD] at e⟩
  | (k, d0) :: kvs, ps, x, h => by
    obtain ⟨v, r, rfl, hv, hr⟩ := h.uncons
    have ih := DenK.look x hr
    rw [valV_cons]
    by_cases e : k = x
    · subst e
      simp only [lookD, if_true]
      exact ⟨fun z => by simp at z, fun d z => ⟨v, by simp, by cases z; exact hv⟩⟩
    · have e' : ¬ (Sum.inr k : Key) = Sum.inr x := fun z => e (Sum.inr.inj z)
      simp only [lookD, if_neg e, if_neg e']
      exact ih
end Y

namespace Y
open PySem L2
variable {K : PySem.W.Frag}

/-- what is owned: a list, a dict, a spring of draws (its list of cells at cl; at most n drawn) -/
inductive OD where
  | ol (l : List D) | ok (l : List (Str × D)) | sm (cl : Addr) (n : Nat) | oi (C dx : Addr) (l : List (Str × D))
/-- attributes of an instance -/
structure DenF (K : PySem.W.Frag) (G : Hp) (ps : List (Str × V)) (fs : List (Str × D)) : Prop where
  keys : ps.map (·.1) = fs.map (·.1)
  at' : ∀ (i : Nat) (p : Str × V) (q : Str × D), ps[i]? = some p → fs[i]? = some q → Den K G p.2 q.2
theorem DenF.mono {G G' : Hp} (e : Same G G') {ps : List (Str × V)} {kvs : List (Str × D)} (h : DenF K G ps kvs) : DenF K G' ps kvs := ⟨h.keys, fun i p q a b => (h.at' i p q a b).mono e⟩
theorem DenF.nil {G : Hp} : DenF K G [] [] := ⟨rfl, fun i x d a b => by simp at a⟩
theorem DenF.cons {G : Hp} {k : Str} {v : V} {d : D} {ps : List (Str × V)} {kvs : List (Str × D)} (h : Den K G v d) (t : DenF K G ps kvs) : DenF K G ((k, v) :: ps) ((k, d) :: kvs) := by
  refine ⟨by simp [t.keys], fun i y e a b => ?_⟩
  cases i with
  | zero => simp at a b; subst a b; exact h
  | succ i => simp at a b; exact t.at' i y e a b
theorem DenF.uncons {G : Hp} {ps : List (Str × V)} {k : Str} {d : D} {kvs : List (Str × D)} (h : DenF K G ps ((k, d) :: kvs)) : ∃ v r, ps = (k, v) :: r ∧ Den K G v d ∧ DenF K G r kvs := by
  cases ps with
  | nil => have := h.keys; simp at this
  | cons p r =>
    obtain ⟨k', v⟩ := p
    have hk := h.keys
    simp at hk
    obtain ⟨e1, e2⟩ := hk
    subst e1
    exact ⟨v, r, rfl, h.at' 0 _ _ rfl rfl, ⟨e2, fun i y e a b => h.at' (i + 1) y e (by simpa using a) (by simpa using b)⟩⟩
theorem DenF.nil_of {G : Hp} {ps : List (Str × V)} (h : DenF K G ps []) : ps = [] := by
  have := congrArg List.length h.keys
  exact List.eq_nil_of_length_eq_zero (by simpa using this)
abbrev OO := List (Nat × Addr × OD)
def oad (a : Addr) : OD → List Addr
  | .sm cl _ => [a, cl]
  | _ => [a]
def odom : OO → List Addr
  | [] => []
  | (_, a, o) :: r => oad a o ++ odom r
/-- the heap without what is owned -/
def hid (O : OO) (H : Hp) : Hp := fun a => if a ∈ odom O then none else H a
/-- a spring of draws stands -/
def Strm (H : Hp) (a cl : Addr) (n : Nat) : Prop := ∃ (cells : List Int) (big cnt mix : Int), H a = some (.lst [.ref cl, .int big, .int cnt, .int mix]) ∧ H cl = some (.lst (cells.map V.int)) ∧ 0 ≤ big ∧ 0 ≤ cnt ∧ cnt ≤ (n : Int) ∧ 0 ≤ mix ∧ mix < 2147483647 ∧ cells.length ≤ 63
def OdOk (K : PySem.W.Frag) (G H : Hp) (a : Addr) : OD → Prop
  | .ol ds => ∃ xs, H a = some (.lst xs) ∧ Dens K G xs ds
  | .ok kvs => ∃ ps, H a = some (.dK ps) ∧ DenK K G ps kvs
  | .sm cl n => Strm H a cl n
  | .oi C dx fs => ∃ ps, H a = some (.ins C dx ps) ∧ DenF K G ps fs
structure OwnOk (K : PySem.W.Frag) (H : Hp) (O : OO) : Prop where
  nd : (odom O).Nodup
  ok : ∀ e ∈ O, OdOk K (hid O H) H e.2.1 e.2.2
def look : OO → Nat → Option (Addr × OD)
  | [], _ => none
  | (l, a, o) :: r, m => if l = m then some (a, o) else look r m
def setO : OO → Nat → OD → OO
  | [], _, _ => []
  | (l, a, o) :: r, m, q => if l = m then (l, a, q) :: r else (l, a, o) :: setO r m q
def dropO : OO → Nat → OO
  | [], _ => []
  | (l, a, o) :: r, m => if l = m then r else (l, a, o) :: dropO r m

theorem Same.trans' {H H1 H2 : Hp} (a : Same H H1) (b : Same H1 H2) : Same H H2 := fun c o h => b c o (a c o h)
theorem hid_some {O : OO} {H : Hp} {a : Addr} {o : HO} (h : hid O H a = some o) : H a = some o ∧ a ∉ odom O := by
  unfold hid at h
  split at h
  · cases h
  · exact ⟨h, by assumption⟩
theorem hid_of {O : OO} {H : Hp} {a : Addr} {o : HO} (h : H a = some o) (n : a ∉ odom O) : hid O H a = some o := by
  unfold hid
  rw [if_neg n]
  exact h
theorem hid_same {O : OO} {H : Hp} : Same (hid O H) H := fun a o h => (hid_some h).1
theorem hid_congr {O : OO} {H H' : Hp} (h : ∀ a, a ∉ odom O → H' a = H a) : hid O H' = hid O H := by
  funext a
  unfold hid
  by_cases e : a ∈ odom O
  · rw [if_pos e, if_pos e]
  · rw [if_neg e, if_neg e, h a e]
theorem look_mem : ∀ {O : OO} {l : Nat} {a : Addr} {o : OD}, look O l = some (a, o) → ∃ l', (l', a, o) ∈ O
  | [], l, a, o, h => by simp [look] at h
  | (l', b, q) :: r, l, a, o, h => by
    unfold look at h
    by_cases e : l' = l
    · rw [if_pos e] at h
      cases h
      exact ⟨l', by simp⟩
    · rw [if_neg e] at h
      obtain ⟨m, hm⟩ := look_mem h
      exact ⟨m, List.mem_cons_of_mem _ hm⟩
theorem mem_odom : ∀ {O : OO} {l : Nat} {a : Addr} {o : OD}, (l, a, o) ∈ O → ∀ b ∈ oad a o, b ∈ odom O
  | [], l, a, o, h, b, hb => by simp at h
  | (l', c, q) :: r, l, a, o, h, b, hb => by
    unfold odom
    rcases List.mem_cons.mp h with e | h
    · cases e
      exact List.mem_append_left _ hb
    · exact List.mem_append_right _ (mem_odom h b hb)
theorem oad_self {a : Addr} {o : OD} : a ∈ oad a o := by cases o <;> simp [oad]
theorem look_dom {O : OO} {l : Nat} {a : Addr} {o : OD} (h : look O l = some (a, o)) : a ∈ odom O := by
  obtain ⟨m, hm⟩ := look_mem h
  exact mem_odom hm a oad_self
theorem OwnOk.at' {H : Hp} {O : OO} (w : OwnOk K H O) {l : Nat} {a : Addr} {o : OD} (h : look O l = some (a, o)) : OdOk K (hid O H) H a o := by
  obtain ⟨m, hm⟩ := look_mem h
  exact w.ok _ hm
theorem OdOk.there {G H : Hp} {a : Addr} {o : OD} (h : OdOk K G H a o) : ∀ b ∈ oad a o, ∃ u, H b = some u := by
  intro b hb
  cases o with
  | ol ds => simp [oad] at hb; subst hb; obtain ⟨xs, e, _⟩ := h; exact ⟨_, e⟩
  | ok ds => simp [oad] at hb; subst hb; obtain ⟨xs, e, _⟩ := h; exact ⟨_, e⟩
  | sm cl n =>
    obtain ⟨cells, big, cnt, mix, e1, e2, _⟩ := h
    simp [oad] at hb
    rcases hb with rfl | rfl
    · exact ⟨_, e1⟩
    · exact ⟨_, e2⟩
  | oi C dx fs => simp [oad] at hb; subst hb; obtain ⟨xs, e, _⟩ := h; exact ⟨_, e⟩
theorem odom_mem : ∀ {O : OO} {b : Addr}, b ∈ odom O → ∃ e ∈ O, b ∈ oad e.2.1 e.2.2
  | [], b, h => by simp [odom] at h
  | (l', c, q) :: r, b, h => by
    unfold odom at h
    rcases List.mem_append.mp h with h | h
    · exact ⟨_, List.mem_cons_self, h⟩
    · obtain ⟨e, he, hb⟩ := odom_mem h
      exact ⟨e, List.mem_cons_of_mem _ he, hb⟩
theorem OwnOk.dom {H : Hp} {O : OO} (w : OwnOk K H O) {b : Addr} (h : b ∈ odom O) : ∃ u, H b = some u := by
  obtain ⟨e, he, hb⟩ := odom_mem h
  exact (w.ok e he).there b hb
theorem OwnOk.fresh {H : Hp} {O : OO} (w : OwnOk K H O) {b : Addr} (h : H b = none) : b ∉ odom O := fun hb => by
  obtain ⟨u, e⟩ := w.dom hb
  rw [h] at e; cases e
theorem OdOk.mono {G G' H H' : Hp} {a : Addr} {o : OD} (h : OdOk K G H a o) (e : Same G G') (f : ∀ b ∈ oad a o, H' b = H b) : OdOk K G' H' a o := by
  have fa := f a oad_self
  cases o with
  | ol ds => obtain ⟨xs, e1, e2⟩ := h; exact ⟨xs, fa.trans e1, e2.mono e⟩
  | ok ds => obtain ⟨xs, e1, e2⟩ := h; exact ⟨xs, fa.trans e1, e2.mono e⟩
  | sm cl n =>
    obtain ⟨cells, big, cnt, mix, e1, e2, r⟩ := h
    exact ⟨cells, big, cnt, mix, fa.trans e1, (f cl (by simp [oad])).trans e2, r⟩
  | oi C dx fs => obtain ⟨xs, e1, e2⟩ := h; exact ⟨xs, fa.trans e1, e2.mono e⟩

/-- a step that owns and changes nothing: data alone is more -/
structure PStep (O : OO) (H H' : Hp) : Prop where
  same : Same (hid O H) (hid O H')
  own : ∀ a ∈ odom O, H' a = H a
theorem PStep.refl (O : OO) (H : Hp) : PStep O H H := ⟨Same.refl _, fun _ _ => rfl⟩
theorem OwnOk.step {H H' : Hp} {O : OO} (w : OwnOk K H O) (p : PStep O H H') : OwnOk K H' O :=
  ⟨w.nd, fun e he => (w.ok e he).mono p.same fun b hb => p.own b (mem_odom (l := e.1) (a := e.2.1) (o := e.2.2) he b hb)⟩
theorem OwnOk.alloc {H : Hp} {O : OO} (w : OwnOk K H O) {p : Addr} {o : HO} (h : H p = none) : PStep O H (upd H p o) := by
  refine ⟨fun a u e => ?_, fun a ha => ?_⟩
  · obtain ⟨e1, e2⟩ := hid_some e
    exact hid_of (by rw [upd_ne (ne_of_none e1 h)]; exact e1) e2
  · obtain ⟨u, e⟩ := w.dom ha
    exact upd_ne (ne_of_none e h)
/-- a new owned object -/
theorem OwnOk.own {H : Hp} {O : OO} (w : OwnOk K H O) {p : Addr} {l : Nat} {q : OD} (ha : oad p q = [p]) (h : p ∉ odom O) (hq : ∀ {G : Hp}, Same (hid ((l, p, q) :: O) H) G → OdOk K G H p q) (old : ∀ e ∈ O, OdOk K (hid ((l, p, q) :: O) H) H e.2.1 e.2.2) : OwnOk K H ((l, p, q) :: O) := by
  refine ⟨?_, fun e he => ?_⟩
  · show (oad p q ++ odom O).Nodup
    rw [ha]
    exact List.nodup_cons.mpr ⟨h, w.nd⟩
  · rcases List.mem_cons.mp he with rfl | he
    · exact hq (Same.refl _)
    · exact old e he
theorem hid_cons_new {H : Hp} {O : OO} {p : Addr} {l : Nat} {q : OD} {o : HO} (ha : oad p q = [p]) (h : H p = none) : Same (hid O H) (hid ((l, p, q) :: O) (upd H p o)) := fun a u e => by
  obtain ⟨e1, e2⟩ := hid_some e
  have hne := ne_of_none e1 h
  refine hid_of (by rw [upd_ne hne]; exact e1) ?_
  show a ∉ oad p q ++ odom O
  rw [ha]
  intro z
  rcases List.mem_append.mp z with z | z
  · simp at z; exact hne z
  · exact e2 z
/-- a new owned list, dict -/
theorem OwnOk.newL {H : Hp} {O : OO} (w : OwnOk K H O) {p : Addr} (l : Nat) {xs : List V} {ds : List D} (h : H p = none) (hd : Dens K (hid O H) xs ds) : OwnOk K (upd H p (.lst xs)) ((l, p, .ol ds) :: O) := by
  have s := hid_cons_new (l := l) (q := .ol ds) (o := .lst xs) (O := O) rfl h
  have st := w.alloc (o := .lst xs) h
  refine (w.step st).own rfl (w.fresh h) (fun e => ⟨xs, upd_same, hd.mono (s.trans e)⟩) fun e he => ?_
  exact (w.ok e he).mono s fun b hb => st.own b (mem_odom (l := e.1) (a := e.2.1) (o := e.2.2) he b hb)
theorem OwnOk.newK {H : Hp} {O : OO} (w : OwnOk K H O) {p : Addr} (l : Nat) {xs : List (Key × V)} {ds : List (Str × D)} (h : H p = none) (hd : DenK K (hid O H) xs ds) : OwnOk K (upd H p (.dK xs)) ((l, p, .ok ds) :: O) := by
  have s := hid_cons_new (l := l) (q := .ok ds) (o := .dK xs) (O := O) rfl h
  have st := w.alloc (o := .dK xs) h
  refine (w.step st).own rfl (w.fresh h) (fun e => ⟨xs, upd_same, hd.mono (s.trans e)⟩) fun e he => ?_
  exact (w.ok e he).mono s fun b hb => st.own b (mem_odom (l := e.1) (a := e.2.1) (o := e.2.2) he b hb)
/-- what is owned no more is data -/
theorem hid_drop {H : Hp} {O : OO} {e : Nat × Addr × OD} : Same (hid (e :: O) H) (hid O H) := fun a u h => by
  obtain ⟨e1, e2⟩ := hid_some h
  exact hid_of e1 fun z => e2 (by show a ∈ oad e.2.1 e.2.2 ++ odom O; exact List.mem_append_right _ z)
theorem OwnOk.drop {H : Hp} {O : OO} {e : Nat × Addr × OD} (w : OwnOk K H (e :: O)) : OwnOk K H O :=
  ⟨(List.nodup_append.mp w.nd).2.1, fun f hf => (w.ok f (List.mem_cons_of_mem _ hf)).mono hid_drop fun _ _ => rfl⟩
theorem OwnOk.denL {H : Hp} {O : OO} {l : Nat} {p : Addr} {ds : List D} (w : OwnOk K H ((l, p, .ol ds) :: O)) : Den K (hid O H) (.ref p) (.lst ds) := by
  obtain ⟨xs, h1, h2⟩ := w.ok _ List.mem_cons_self
  have np : p ∉ odom O := (List.nodup_cons.mp w.nd).1
  have h3 := h2.mono (hid_drop (e := (l, p, OD.ol ds)) (O := O))
  exact .lst (hid_of h1 np) h3.len h3.at'
theorem setO_dom : ∀ {O : OO} {l : Nat} {a : Addr} {o q : OD}, look O l = some (a, o) → oad a o = oad a q → odom (setO O l q) = odom O
  | [], l, a, o, q, h, e => rfl
  | (m, b, u) :: r, l, a, o, q, h, e => by
    unfold look at h
    unfold setO
    by_cases hm : m = l
    · rw [if_pos hm] at h
      cases h
      rw [if_pos hm]
      show oad b q ++ odom r = oad b u ++ odom r
      rw [e]
    · rw [if_neg hm] at h
      rw [if_neg hm]
      show oad b u ++ odom (setO r l q) = oad b u ++ odom r
      rw [setO_dom h e]
theorem setO_mem : ∀ {O : OO} {l : Nat} {a : Addr} {o q : OD}, look O l = some (a, o) → ∀ e ∈ setO O l q, (e.2.1 = a ∧ e.2.2 = q) ∨ (e ∈ O ∧ ((odom O).Nodup → ∀ b ∈ oad e.2.1 e.2.2, b ∉ oad a o))
  | [], l, a, o, q, h, e, he => by simp [setO] at he
  | (m, b, u) :: r, l, a, o, q, h, e, he => by
    unfold look at h
    unfold setO at he
    by_cases hm : m = l
    · rw [if_pos hm] at h he
      cases h
      rcases List.mem_cons.mp he with rfl | he
      · exact .inl ⟨rfl, rfl⟩
      · refine .inr ⟨List.mem_cons_of_mem _ he, fun nd c hc hc' => ?_⟩
        have := (List.nodup_append.mp nd).2.2
        exact this c hc' c (mem_odom (l := e.1) (a := e.2.1) (o := e.2.2) he c hc) rfl
    · rw [if_neg hm] at h he
      rcases List.mem_cons.mp he with rfl | he
      · refine .inr ⟨List.mem_cons_self, fun nd c hc hc' => ?_⟩
        have := (List.nodup_append.mp nd).2.2
        obtain ⟨m', hm'⟩ := look_mem h
        exact this c hc c (mem_odom hm' c hc') rfl
      · rcases setO_mem h e he with z | ⟨z1, z2⟩
        · exact .inl z
        · exact .inr ⟨List.mem_cons_of_mem _ z1, fun nd => z2 (List.nodup_append.mp nd).2.1⟩
/-- the owned object at l is changed -/
theorem OwnOk.write {H H' : Hp} {O : OO} (w : OwnOk K H O) {l : Nat} {a : Addr} {o q : OD} (h : look O l = some (a, o)) (e : oad a o = oad a q) (f : ∀ b, b ∉ oad a o → H' b = H b) (hq : OdOk K (hid O H) H' a q) :
    OwnOk K H' (setO O l q) ∧ Same (hid O H) (hid (setO O l q) H') := by
  have hd := setO_dom h e
  have hh : hid (setO O l q) H' = hid O H := by
    have h1 : hid (setO O l q) H' = hid O H' := by
      funext b; unfold hid; rw [hd]
    rw [h1]
    refine hid_congr fun b hb => f b fun z => hb ?_
    obtain ⟨m, hm⟩ := look_mem h
    exact mem_odom hm b z
  refine ⟨⟨by rw [hd]; exact w.nd, fun u hu => ?_⟩, by rw [hh]; exact Same.refl _⟩
  rw [hh]
  rcases setO_mem h u hu with ⟨e1, e2⟩ | ⟨h1, h2⟩
  · rw [e1, e2]; exact hq
  · exact (w.ok u h1).mono (Same.refl _) fun b hb => f b (h2 w.nd b hb)

/-! ### values by what they stand for: data, or a thing of one's own -/
inductive Sl where
  | d (x : D) | p (l : Nat) (a : Addr)
def VOk (K : PySem.W.Frag) (G : Hp) (v : V) : Sl → Prop
  | .d x => Den K G v x
  | .p _ a => v = .ref a
theorem VOk.mono {G G' : Hp} {v : V} {s : Sl} (e : Same G G') (h : VOk K G v s) : VOk K G' v s := by
  cases s with
  | d x => exact Den.mono e h
  | p l a => exact h
abbrev GG := List (Option Sl)
structure SlOk (K : PySem.W.Frag) (G : Hp) (σ : L2.St) (Γ : GG) : Prop where
  len : σ.length = Γ.length
  at' : ∀ (i : Nat) (s : Sl), Γ[i]? = some (some s) → ∃ v, σ[i]? = some (some v) ∧ VOk K G v s
theorem SlOk.mono {G G' : Hp} {σ : L2.St} {Γ : GG} (e : Same G G') (h : SlOk K G σ Γ) : SlOk K G' σ Γ :=
  ⟨h.len, fun i s g => let ⟨v, h1, h2⟩ := h.at' i s g; ⟨v, h1, h2.mono e⟩⟩
theorem SlOk.set {G : Hp} {σ : L2.St} {Γ : GG} (h : SlOk K G σ Γ) (i : Nat) {v : V} {s : Sl} (hv : VOk K G v s) : SlOk K G (σ.set i (some v)) (Γ.set i (some s)) := by
  refine ⟨by simp [h.len], fun j t g => ?_⟩
  rw [List.getElem?_set] at g ⊢
  by_cases e : i = j
  · rw [if_pos e] at g ⊢
    split at g
    · rename_i hl
      cases g
      rw [if_pos (by rw [h.len]; exact hl)]
      exact ⟨v, rfl, hv⟩
    · cases g
  · rw [if_neg e] at g ⊢
    exact h.at' j t g
theorem SlOk.setNone {G : Hp} {σ : L2.St} {Γ : GG} (h : SlOk K G σ Γ) (i : Nat) : SlOk K G (σ.set i none) (Γ.set i none) := by
  refine ⟨by simp [h.len], fun j t g => ?_⟩
  rw [List.getElem?_set] at g ⊢
  by_cases e : i = j
  · rw [if_pos e] at g
    split at g <;> cases g
  · rw [if_neg e] at g ⊢
    exact h.at' j t g
def wipeG (Γ : GG) : List Nat → GG
  | [] => Γ
  | v :: vs => (wipeG Γ vs).set v none
theorem SlOk.wipe {G : Hp} {σ : L2.St} {Γ : GG} (h : SlOk K G σ Γ) : ∀ vs : List Nat, SlOk K G (L2.wipe σ vs) (wipeG Γ vs)
  | [] => h
  | v :: vs => (SlOk.wipe h vs).setNone v
structure SlsOk (K : PySem.W.Frag) (G : Hp) (vs : List V) (ss : List Sl) : Prop where
  len : vs.length = ss.length
  at' : ∀ (i : Nat) (v : V) (s : Sl), vs[i]? = some v → ss[i]? = some s → VOk K G v s
theorem SlsOk.nil {G : Hp} : SlsOk K G [] [] := ⟨rfl, fun i x d a b => by simp at a⟩
theorem SlsOk.cons {G : Hp} {v : V} {s : Sl} {vs : List V} {ss : List Sl} (h : VOk K G v s) (t : SlsOk K G vs ss) : SlsOk K G (v :: vs) (s :: ss) := by
  refine ⟨by simp [t.len], fun i y e a b => ?_⟩
  cases i with
  | zero => simp at a b; subst a b; exact h
  | succ i => simp at a b; exact t.at' i y e a b
theorem SlsOk.uncons {G : Hp} {vs : List V} {s : Sl} {ss : List Sl} (h : SlsOk K G vs (s :: ss)) : ∃ v r, vs = v :: r ∧ VOk K G v s ∧ SlsOk K G r ss := by
  cases vs with
  | nil => have := h.len; simp at this
  | cons x r => exact ⟨x, r, rfl, h.at' 0 x s rfl rfl, ⟨by have := h.len; simpa using this, fun i y e a b => h.at' (i + 1) y e (by simpa using a) (by simpa using b)⟩⟩
theorem SlsOk.nil_of {G : Hp} {vs : List V} (h : SlsOk K G vs []) : vs = [] := List.eq_nil_of_length_eq_zero h.len
theorem SlsOk.mono {G G' : Hp} {vs : List V} {ss : List Sl} (e : Same G G') (h : SlsOk K G vs ss) : SlsOk K G' vs ss := ⟨h.len, fun i x d a b => (h.at' i x d a b).mono e⟩
theorem SlsOk.dens {G : Hp} : ∀ {ds : List D} {vs : List V}, SlsOk K G vs (ds.map Sl.d) → Dens K G vs ds := fun {ds vs} h =>
  ⟨by simpa using h.len, fun i x d a b => h.at' i x (.d d) a (by simp [b])⟩
end Y

namespace Y
open PySem L2
variable {K : PySem.W.Frag}

/-! ### abstract readings -/
def wE (K : PySem.W.Frag) (te : TE) (Γ : GG) (O : OO) (P : Sl → OO → Prop) : Prop := ∀ (σ : L2.St) (H : Hp), OwnOk K H O → SlOk K (hid O H) σ Γ → ∀ Q : VK,
  (∀ v H' s O', P s O' → Same (hid O H) (hid O' H') → OwnOk K H' O' → VOk K (hid O' H') v s → Q v H') → te σ H Q
def wT (K : PySem.W.Frag) (tt : TT) (Γ : GG) (O : OO) (P : Bool → OO → Prop) : Prop := ∀ (σ : L2.St) (H : Hp), OwnOk K H O → SlOk K (hid O H) σ Γ → ∀ Q : Bool → Hp → Prop,
  (∀ b H' O', P b O' → Same (hid O H) (hid O' H') → OwnOk K H' O' → Q b H') → tt σ H Q
def wA (K : PySem.W.Frag) (ta : TA) (Γ : GG) (O : OO) (P : List Sl → OO → Prop) : Prop := ∀ (σ : L2.St) (H : Hp), OwnOk K H O → SlOk K (hid O H) σ Γ → ∀ Q : List V → Hp → Prop,
  (∀ vs H' ss O', P ss O' → Same (hid O H) (hid O' H') → OwnOk K H' O' → SlsOk K (hid O' H') vs ss → Q vs H') → ta σ H Q
def wO (K : PySem.W.Frag) (to : TO) (Γ : GG) (O : OO) (P : Option Int → OO → Prop) : Prop := ∀ (σ : L2.St) (H : Hp), OwnOk K H O → SlOk K (hid O H) σ Γ → ∀ Q : Option Int → Hp → Prop,
  (∀ b H' O', P b O' → Same (hid O H) (hid O' H') → OwnOk K H' O' → Q b H') → to σ H Q
def wG (K : PySem.W.Frag) (g : TG) (s : Sl) (Γ : GG) (O : OO) (P : GG → OO → Prop) : Prop := ∀ (v : V) (σ : L2.St) (H : Hp), OwnOk K H O → SlOk K (hid O H) σ Γ → VOk K (hid O H) v s → ∀ Q : L2.St → Hp → Prop,
  (∀ σ' H' Γ' O', P Γ' O' → Same (hid O H) (hid O' H') → OwnOk K H' O' → SlOk K (hid O' H') σ' Γ' → Q σ' H') → g v σ H Q
def wGs (K : PySem.W.Frag) (g : TGs) (ss : List Sl) (Γ : GG) (O : OO) (P : GG → OO → Prop) : Prop := ∀ (vs : List V) (σ : L2.St) (H : Hp), OwnOk K H O → SlOk K (hid O H) σ Γ → SlsOk K (hid O H) vs ss → ∀ Q : L2.St → Hp → Prop,
  (∀ σ' H' Γ' O', P Γ' O' → Same (hid O H) (hid O' H') → OwnOk K H' O' → SlOk K (hid O' H') σ' Γ' → Q σ' H') → g vs σ H Q
structure AE where
  nx : GG → OO → Prop
  rt : Sl → OO → Prop
  bk : GG → OO → Prop := fun _ _ => False
  ct : GG → OO → Prop := fun _ _ => False
structure EndOk (K : PySem.W.Frag) (B : Hp) (A : AE) (D : Ends) : Prop where
  nx : ∀ σ' H' Γ' O', A.nx Γ' O' → Same B (hid O' H') → OwnOk K H' O' → SlOk K (hid O' H') σ' Γ' → D.nx σ' H'
  rt : ∀ v H' s O', A.rt s O' → Same B (hid O' H') → OwnOk K H' O' → VOk K (hid O' H') v s → D.rt v H'
  bk : ∀ σ' H' Γ' O', A.bk Γ' O' → Same B (hid O' H') → OwnOk K H' O' → SlOk K (hid O' H') σ' Γ' → D.bk σ' H'
  ct : ∀ σ' H' Γ' O', A.ct Γ' O' → Same B (hid O' H') → OwnOk K H' O' → SlOk K (hid O' H') σ' Γ' → D.ct σ' H'
theorem EndOk.mono {B B' : Hp} {A : AE} {D : Ends} (h : EndOk K B A D) (s : Same B B') : EndOk K B' A D :=
  ⟨fun a b c d e f => h.nx a b c d e (s.trans f), fun a b c d e f => h.rt a b c d e (s.trans f), fun a b c d e f => h.bk a b c d e (s.trans f), fun a b c d e f => h.ct a b c d e (s.trans f)⟩
def wS (K : PySem.W.Frag) (ts : TS) (Γ : GG) (O : OO) (A : AE) : Prop := ∀ (σ : L2.St) (H : Hp) (D : Ends), OwnOk K H O → SlOk K (hid O H) σ Γ → EndOk K (hid O H) A D → ts D σ H

section
variable {Γ : GG} {O : OO} {te ta tb tc : TE} {tt tu : TT} {P : Sl → OO → Prop} {PB : Bool → OO → Prop}
theorem wE.imp {P' : Sl → OO → Prop} (h : wE K te Γ O P) (f : ∀ s O', P s O' → P' s O') : wE K te Γ O P' := fun σ H w sl Q q => h σ H w sl Q fun v H' s O' p => q v H' s O' (f _ _ p)
theorem wT.imp {P' : Bool → OO → Prop} (h : wT K tt Γ O PB) (f : ∀ s O', PB s O' → P' s O') : wT K tt Γ O P' := fun σ H w sl Q q => h σ H w sl Q fun v H' s p => q v H' s (f _ _ p)
theorem wE_var {i : Nat} {s : Sl} (h : Γ[i]? = some (some s)) (p : P s O) : wE K (tVar i) Γ O P := fun σ H w sl Q q =>
  let ⟨v, h1, h2⟩ := sl.at' i s h
  ⟨v, h1, q v H s O p (Same.refl _) w h2⟩
theorem wE_int {i : Int} (p : P (.d (.int i)) O) : wE K (tC (.int i)) Γ O P := fun σ H w sl Q q => q _ H _ O p (Same.refl _) w (.int i)
theorem wE_bl {i : Bool} (p : P (.d (.bl i)) O) : wE K (tC (.bl i)) Γ O P := fun σ H w sl Q q => q _ H _ O p (Same.refl _) w (.bl i)
theorem wE_str {i : Str} (p : P (.d (.str i)) O) : wE K (tC (.str i)) Γ O P := fun σ H w sl Q q => q _ H _ O p (Same.refl _) w (.str i)
theorem wE_non (p : P (.d .non) O) : wE K (tC .non) Γ O P := fun σ H w sl Q q => q _ H _ O p (Same.refl _) w .non
/-- a constant of the module: data of the written part -/
theorem wE_c {v : V} {d : D} (h : ∀ G, Den K G v d) (p : P (.d d) O) : wE K (tC v) Γ O P := fun σ H w sl Q q => q _ H _ O p (Same.refl _) w (h _)

/-! ### operations on values -/
def aR2 (K : PySem.W.Frag) (r : R2) (x y : Sl) (O : OO) (P : Sl → OO → Prop) : Prop := ∀ (H : Hp) (v u : V), OwnOk K H O → VOk K (hid O H) v x → VOk K (hid O H) u y → ∀ Q : VK,
  (∀ z H' s O', P s O' → Same (hid O H) (hid O' H') → OwnOk K H' O' → VOk K (hid O' H') z s → Q z H') → r v u H Q
def aR1 (K : PySem.W.Frag) (r : V → Hp → VK → Prop) (x : Sl) (O : OO) (P : Sl → OO → Prop) : Prop := ∀ (H : Hp) (v : V), OwnOk K H O → VOk K (hid O H) v x → ∀ Q : VK,
  (∀ z H' s O', P s O' → Same (hid O H) (hid O' H') → OwnOk K H' O' → VOk K (hid O' H') z s → Q z H') → r v H Q
def aRC (K : PySem.W.Frag) (r : List V → Hp → VK → Prop) (ss : List Sl) (O : OO) (P : Sl → OO → Prop) : Prop := ∀ (H : Hp) (vs : List V), OwnOk K H O → SlsOk K (hid O H) vs ss → ∀ Q : VK,
  (∀ z H' s O', P s O' → Same (hid O H) (hid O' H') → OwnOk K H' O' → VOk K (hid O' H') z s → Q z H') → r vs H Q
def aRM (K : PySem.W.Frag) (r : V → List V → Hp → VK → Prop) (x : Sl) (ss : List Sl) (O : OO) (P : Sl → OO → Prop) : Prop := ∀ (H : Hp) (v : V) (vs : List V), OwnOk K H O → VOk K (hid O H) v x → SlsOk K (hid O H) vs ss → ∀ Q : VK,
  (∀ z H' s O', P s O' → Same (hid O H) (hid O' H') → OwnOk K H' O' → VOk K (hid O' H') z s → Q z H') → r v vs H Q
theorem wE_op {r : R2} (h : wE K ta Γ O fun x O1 => wE K tb Γ O1 fun y O2 => aR2 K r x y O2 P) : wE K (tOp r ta tb) Γ O P := fun σ H w sl Q q =>
  h σ H w sl _ fun v H1 x O1 hb s1 w1 v1 => hb σ H1 w1 (sl.mono s1) _ fun u H2 y O2 hr s2 w2 u2 => hr H2 v u w2 (v1.mono s2) u2 Q fun z H3 s O3 p s3 w3 z3 => q z H3 s O3 p ((s1.trans s2).trans s3) w3 z3
theorem wE_un {r : V → Hp → VK → Prop} (h : wE K ta Γ O fun x O1 => aR1 K r x O1 P) : wE K (tUn r ta) Γ O P := fun σ H w sl Q q =>
  h σ H w sl _ fun v H1 x O1 hr s1 w1 v1 => hr H1 v w1 v1 Q fun z H3 s O3 p s3 w3 z3 => q z H3 s O3 p (s1.trans s3) w3 z3
theorem wE_cb {r : List V → Hp → VK → Prop} {t : TA} (h : wA K t Γ O fun ss O1 => aRC K r ss O1 P) : wE K (tCB r t) Γ O P := fun σ H w sl Q q =>
  h σ H w sl _ fun vs H1 ss O1 hr s1 w1 v1 => hr H1 vs w1 v1 Q fun z H3 s O3 p s3 w3 z3 => q z H3 s O3 p (s1.trans s3) w3 z3
theorem wA_nil {PA : List Sl → OO → Prop} (p : PA [] O) : wA K tNil Γ O PA := fun σ H w sl Q q => q [] H [] O p (Same.refl _) w .nil
theorem wA_cons {t : TA} {PA : List Sl → OO → Prop} (h : wE K te Γ O fun x O1 => wA K t Γ O1 fun ss O2 => PA (x :: ss) O2) : wA K (tCons te t) Γ O PA := fun σ H w sl Q q =>
  h σ H w sl _ fun v H1 x O1 hb s1 w1 v1 => hb σ H1 w1 (sl.mono s1) _ fun vs H2 ss O2 p s2 w2 u2 => q _ H2 _ O2 p (s1.trans s2) w2 (.cons (v1.mono s2) u2)
theorem wO_none {PO : Option Int → OO → Prop} (p : PO none O) : wO K tNoPart Γ O PO := fun σ H w sl Q q => q none H O p (Same.refl _) w
theorem wO_some {PO : Option Int → OO → Prop} (h : wE K te Γ O fun x O1 => ∃ i, x = .d (.int i) ∧ PO (some i) O1) : wO K (tPart te) Γ O PO := fun σ H w sl Q q =>
  h σ H w sl _ fun v H1 x O1 hb s1 w1 v1 => by
    obtain ⟨i, rfl, p⟩ := hb
    cases v1
    exact ⟨i, rfl, q _ H1 O1 p s1 w1⟩

/-- the end of an operation that changes nothing -/
theorem a2 {r : R2} {x y z : D} (h : ∀ (H : Hp) (v u : V), OwnOk K H O → Den K (hid O H) v x → Den K (hid O H) u y → ∀ Q : VK, (∀ w, Den K (hid O H) w z → Q w H) → r v u H Q) (p : P (.d z) O) : aR2 K r (.d x) (.d y) O P := fun H v u w hv hu Q q =>
  h H v u w hv hu Q fun z' hz => q z' H _ O p (Same.refl _) w hz
theorem a_rI0 {g : Int → Int → V} {i j : Int} {d : D} (hg : ∀ G, Den K G (g i j) d) (p : P (.d d) O) : aR2 K (rI0 g) (.d (.int i)) (.d (.int j)) O P := a2 (fun H v u w hv hu Q q => by cases hv; cases hu; exact ⟨i, j, rfl, rfl, q _ (hg _)⟩) p
theorem a_rI {C : Int → Int → Prop} {g : Int → Int → V} {i j : Int} {d : D} (hg : ∀ G, Den K G (g i j) d) (c : C i j) (p : P (.d d) O) : aR2 K (rI C g) (.d (.int i)) (.d (.int j)) O P := a2 (fun H v u w hv hu Q q => by cases hv; cases hu; exact ⟨i, j, rfl, rfl, c, q _ (hg _)⟩) p
theorem a_add {i j : Int} (p : P (.d (.int (i + j))) O) : aR2 K (rI0 fun i j => .int (i + j)) (.d (.int i)) (.d (.int j)) O P := a_rI0 (fun _ => .int _) p
theorem a_sub {i j : Int} (p : P (.d (.int (i - j))) O) : aR2 K (rI0 fun i j => .int (i - j)) (.d (.int i)) (.d (.int j)) O P := a_rI0 (fun _ => .int _) p
theorem a_mul {i j : Int} (c : CMul i j) (p : P (.d (.int (i * j))) O) : aR2 K (rI CMul fun i j => .int (i * j)) (.d (.int i)) (.d (.int j)) O P := a_rI (fun _ => .int _) c p
theorem a_lt {i j : Int} (p : P (.d (.bl (decide (i < j)))) O) : aR2 K (rI0 fun i j => .bl (decide (i < j))) (.d (.int i)) (.d (.int j)) O P := a_rI0 (fun _ => .bl _) p
theorem a_le {i j : Int} (p : P (.d (.bl (decide (i ≤ j)))) O) : aR2 K (rI0 fun i j => .bl (decide (i ≤ j))) (.d (.int i)) (.d (.int j)) O P := a_rI0 (fun _ => .bl _) p
theorem a_gt {i j : Int} (p : P (.d (.bl (decide (j < i)))) O) : aR2 K (rI0 fun i j => .bl (decide (j < i))) (.d (.int i)) (.d (.int j)) O P := a_rI0 (fun _ => .bl _) p
theorem a_ge {i j : Int} (p : P (.d (.bl (decide (j ≤ i)))) O) : aR2 K (rI0 fun i j => .bl (decide (j ≤ i))) (.d (.int i)) (.d (.int j)) O P := a_rI0 (fun _ => .bl _) p
/-- scalars -/
def D.sc : D → Option V
  | .non => some .non | .bl b => some (.bl b) | .int i => some (.int i) | .str s => some (.str s) | _ => none
theorem Den.sc {G : Hp} {v : V} {d : D} (h : Den K G v d) {x : V} (e : d.sc = some x) : v = x := by
  cases h <;> simp [D.sc] at e <;> exact e
theorem a_eq {x y : D} {u v : V} (hx : x.sc = some u) (hy : y.sc = some v) (s : scal u v = true) (p : P (.d (.bl (decide (u = v)))) O) : aR2 K rEq (.d x) (.d y) O P := a2 (fun H a b w ha hb Q q => by
  have e1 := Den.sc ha hx; have e2 := Den.sc hb hy; subst e1 e2
  exact ⟨s, q _ (.bl _)⟩) p
theorem a_ne {x y : D} {u v : V} (hx : x.sc = some u) (hy : y.sc = some v) (s : scal u v = true) (p : P (.d (.bl (!decide (u = v)))) O) : aR2 K rNe (.d x) (.d y) O P := a2 (fun H a b w ha hb Q q => by
  have e1 := Den.sc ha hx; have e2 := Den.sc hb hy; subst e1 e2
  exact ⟨s, q _ (.bl _)⟩) p
theorem a_eqStr {x y : Str} (p : P (.d (.bl (decide (x = y)))) O) : aR2 K rEq (.d (.str x)) (.d (.str y)) O P := a_eq rfl rfl rfl (by
  have e : decide (V.str x = V.str y) = decide (x = y) := by simp
  rw [e]; exact p)
theorem a_eqInt {x y : Int} (p : P (.d (.bl (decide (x = y)))) O) : aR2 K rEq (.d (.int x)) (.d (.int y)) O P := a_eq rfl rfl rfl (by
  have e : decide (V.int x = V.int y) = decide (x = y) := by simp
  rw [e]; exact p)
theorem a_eqBl {x y : Bool} (p : P (.d (.bl (decide (x = y)))) O) : aR2 K rEq (.d (.bl x)) (.d (.bl y)) O P := a_eq rfl rfl rfl (by
  have e : decide (V.bl x = V.bl y) = decide (x = y) := by simp
  rw [e]; exact p)
theorem a_neStr {x y : Str} (p : P (.d (.bl (!decide (x = y)))) O) : aR2 K rNe (.d (.str x)) (.d (.str y)) O P := a_ne rfl rfl rfl (by
  have e : decide (V.str x = V.str y) = decide (x = y) := by simp
  rw [e]; exact p)
theorem a_neInt {x y : Int} (p : P (.d (.bl (!decide (x = y)))) O) : aR2 K rNe (.d (.int x)) (.d (.int y)) O P := a_ne rfl rfl rfl (by
  have e : decide (V.int x = V.int y) = decide (x = y) := by simp
  rw [e]; exact p)
theorem a_neBl {x y : Bool} (p : P (.d (.bl (!decide (x = y)))) O) : aR2 K rNe (.d (.bl x)) (.d (.bl y)) O P := a_ne rfl rfl rfl (by
  have e : decide (V.bl x = V.bl y) = decide (x = y) := by simp
  rw [e]; exact p)
def Sl.isNon : Sl → Bool
  | .d .non => true
  | _ => false
theorem VOk.nonIff {G : Hp} {v : V} {s : Sl} (h : VOk K G v s) : decide (v = .non) = s.isNon := by
  cases s with
  | p l a => cases h; rfl
  | d x => cases h <;> rfl
theorem wE_isN (h : wE K ta Γ O fun x O1 => P (.d (.bl x.isNon)) O1) : wE K (tIsN ta) Γ O P := fun σ H w sl Q q =>
  h σ H w sl _ fun v H1 x O1 p s1 w1 v1 => by
    show Q (.bl (decide (v = .non))) H1
    rw [v1.nonIff]
    exact q _ H1 _ O1 p s1 w1 (.bl _)
theorem wE_notN (h : wE K ta Γ O fun x O1 => P (.d (.bl (!x.isNon))) O1) : wE K (tNotN ta) Γ O P := fun σ H w sl Q q =>
  h σ H w sl _ fun v H1 x O1 p s1 w1 v1 => by
    show Q (.bl (!decide (v = .non))) H1
    rw [v1.nonIff]
    exact q _ H1 _ O1 p s1 w1 (.bl _)

/-! ### rows: a list or tuple as data, a list of one's own -/
inductive Seq (O : OO) : Sl → List D → Prop where
  | lst (ds : List D) : Seq O (.d (.lst ds)) ds
  | tup (ds : List D) : Seq O (.d (.tup ds)) ds
  | rt (ds : List D) : Seq O (.d (.rt ds)) ds
  | own {l : Nat} {a : Addr} {ds : List D} (h : look O l = some (a, .ol ds)) : Seq O (.p l a) ds
theorem Seq.read {H : Hp} {v : V} {s : Sl} {ds : List D} (q : Seq O s ds) (w : OwnOk K H O) (h : VOk K (hid O H) v s) : ∃ a xs, v = .ref a ∧ (SqL K H a xs ∨ SqT K H a xs) ∧ Dens K (hid O H) xs ds := by
  cases q with
  | lst =>
    cases h with
    | lst h hl hd => exact ⟨_, _, rfl, .inl (SqL.of (hid_some h).1), hl, hd⟩
  | tup =>
    cases h with
    | tup h hl hd => exact ⟨_, _, rfl, .inr (seqT hid_same h), hl, hd⟩
  | rt =>
    cases h with
    | rt h hn hl hd => exact ⟨_, _, rfl, .inr (.inl (.inr ⟨_, (hid_some h).1⟩)), hl, hd⟩
  | own hl =>
    obtain ⟨xs, h1, h2⟩ := w.at' hl
    exact ⟨_, xs, h, .inl (SqL.of h1), h2⟩
/-- tuples -/
inductive TupD : D → List D → Prop where
  | tup (ds : List D) : TupD (.tup ds) ds
  | rt (ds : List D) : TupD (.rt ds) ds
theorem TupD.read {G : Hp} {v : V} {d : D} {ds : List D} (q : TupD d ds) (h : Den K G v d) : ∃ a xs, v = .ref a ∧ SqT K G a xs ∧ Dens K G xs ds := by
  cases q with
  | tup =>
    cases h with
    | tup h hl hd => exact ⟨_, _, rfl, h, hl, hd⟩
  | rt =>
    cases h with
    | rt h hn hl hd => exact ⟨_, _, rfl, .inl (.inr ⟨_, h⟩), hl, hd⟩
theorem TupD.seq {d : D} {ds : List D} (q : TupD d ds) : Seq O (.d d) ds := by
  cases q with
  | tup => exact .tup _
  | rt => exact .rt _
/-- .. lists alone -/
inductive SeqL (O : OO) : Sl → List D → Prop where
  | lst (ds : List D) : SeqL O (.d (.lst ds)) ds
  | own {l : Nat} {a : Addr} {ds : List D} (h : look O l = some (a, .ol ds)) : SeqL O (.p l a) ds
theorem SeqL.read {H : Hp} {v : V} {s : Sl} {ds : List D} (q : SeqL O s ds) (w : OwnOk K H O) (h : VOk K (hid O H) v s) : ∃ a xs, v = .ref a ∧ H a = some (.lst xs) ∧ Dens K (hid O H) xs ds := by
  cases q with
  | lst =>
    cases h with
    | lst h hl hd => exact ⟨_, _, rfl, (hid_some h).1, hl, hd⟩
  | own hl =>
    obtain ⟨xs, h1, h2⟩ := w.at' hl
    exact ⟨_, xs, h, h1, h2⟩
theorem SeqL.seq {s : Sl} {ds : List D} (q : SeqL O s ds) : Seq O s ds := by
  cases q with
  | lst => exact .lst _
  | own h => exact .own h
theorem atI_some {α : Type} {xs : List α} {i : Int} {v : α} (h : atI xs i = some v) : ∃ j : Nat, xs[j]? = some v ∧ ixN xs.length i = some j := by
  unfold atI at h
  cases e : ixN xs.length i with
  | none => rw [e] at h; cases h
  | some j => rw [e] at h; exact ⟨j, h, rfl⟩
theorem Dens.atI {G : Hp} {xs : List V} {ds : List D} (h : Dens K G xs ds) {i : Int} {d : D} (e : L2.atI ds i = some d) : ∃ x, L2.atI xs i = some x ∧ Den K G x d := by
  obtain ⟨j, h1, h2⟩ := atI_some e
  obtain ⟨x, h3, h4⟩ := h.get h1
  refine ⟨x, ?_, h4⟩
  unfold L2.atI
  rw [h.len, h2]
  exact h3
theorem a_ixL {s : Sl} {ds : List D} {i : Int} {d : D} (q : SeqL O s ds) (e : atI ds i = some d) (p : P (.d d) O) : aR2 K (rIxL K) s (.d (.int i)) O P := fun H v u w hv hu Q k => by
  obtain ⟨a, xs, rfl, h1, h2⟩ := q.read w hv
  cases hu
  obtain ⟨x, h3, h4⟩ := h2.atI e
  exact ⟨a, xs, i, x, rfl, rfl, SqL.of h1, h3, k x H _ O p (Same.refl _) w h4⟩
theorem a_ixT {x : D} {ds : List D} {i : Int} {d : D} (q : TupD x ds) (e : atI ds i = some d) (p : P (.d d) O) : aR2 K (rIxT K) (.d x) (.d (.int i)) O P := fun H v u w hv hu Q k => by
  obtain ⟨a, xs, rfl, h1, h2⟩ := q.read hv
  cases hu
  obtain ⟨y, h3, h4⟩ := h2.atI e
  exact ⟨_, _, i, y, rfl, rfl, seqT hid_same h1, h3, k y H _ O p (Same.refl _) w h4⟩
theorem a_ix {s : Sl} {ds : List D} {i : Int} {d : D} (q : Seq O s ds) (e : atI ds i = some d) (p : P (.d d) O) : aR2 K (rIx K) s (.d (.int i)) O P := fun H v u w hv hu Q k => by
  cases q with
  | lst => exact .inl (a_ixL (.lst ds) e p H v u w hv hu Q k)
  | own h => exact .inl (a_ixL (.own h) e p H v u w hv hu Q k)
  | tup => exact .inr (.inl (a_ixT (.tup ds) e p H v u w hv hu Q k))
  | rt => exact .inr (.inl (a_ixT (.rt ds) e p H v u w hv hu Q k))
theorem a_ixS {z : Str} {i : Int} {c : Nat} (hz : z.length ≤ sizeLine) (e : atI z.cps.toList i = some c) (p : P (.d (.str ⟨#[c]⟩)) O) : aR2 K (rIx K) (.d (.str z)) (.d (.int i)) O P := a2 (fun H v u w hv hu Q q => by
  cases hv; cases hu
  exact .inr (.inr ⟨z, i, c, rfl, rfl, hz, e, q _ (.str _)⟩)) p
/-- flat data, and membership by value -/
def D.flat : D → Bool
  | .non => true | .bl _ => true | .int _ => true | .str _ => true | _ => false
def inD (x : V) (ds : List D) : Bool := ds.any fun d => match d.sc with | some v => eqV v x | none => false
theorem flat_sc {d : D} (h : d.flat = true) : ∃ v, d.sc = some v ∧ flatV v = true := by
  cases d <;> first | exact ⟨_, rfl, rfl⟩ | (simp [D.flat] at h)
theorem Dens.flat {G : Hp} : ∀ {ds : List D} {xs : List V}, Dens K G xs ds → ds.all D.flat = true → xs.all flatV = true ∧ ∀ x, inV x xs = inD x ds
  | [], xs, h, _ => by obtain rfl := h.nil_of; exact ⟨rfl, fun x => rfl⟩
  | d :: ds, xs, h, f => by
    obtain ⟨x, r, rfl, hx, hr⟩ := h.uncons
    rw [List.all_cons, Bool.and_eq_true] at f
    obtain ⟨ih1, ih2⟩ := Dens.flat hr f.2
    obtain ⟨v, hv, fv⟩ := flat_sc f.1
    have e := Den.sc hx hv
    subst e
    refine ⟨by rw [List.all_cons, fv, ih1]; rfl, fun y => ?_⟩
    have := ih2 y
    unfold inV inD at this ⊢
    rw [List.any_cons, List.any_cons, this, hv]
theorem a_in {x : D} {v : V} {s : Sl} {ds : List D} (hx : x.sc = some v) (fx : flatV v = true) (q : Seq O s ds) (f : ds.all D.flat = true) (p : P (.d (.bl (inD v ds))) O) : aR2 K (rIn K false) (.d x) s O P := fun H a b w ha hb Q k => by
  have e := Den.sc ha hx; subst e
  obtain ⟨c, xs, rfl, h1, h2⟩ := q.read w hb
  obtain ⟨f1, f2⟩ := h2.flat f
  refine ⟨c, xs, rfl, h1, fx, f1, ?_⟩
  simp only [Bool.false_eq_true, if_false]
  rw [f2]
  exact k _ H _ O p (Same.refl _) w (.bl _)
theorem a_notIn {x : D} {v : V} {s : Sl} {ds : List D} (hx : x.sc = some v) (fx : flatV v = true) (q : Seq O s ds) (f : ds.all D.flat = true) (p : P (.d (.bl (!inD v ds))) O) : aR2 K (rIn K true) (.d x) s O P := fun H a b w ha hb Q k => by
  have e := Den.sc ha hx; subst e
  obtain ⟨c, xs, rfl, h1, h2⟩ := q.read w hb
  obtain ⟨f1, f2⟩ := h2.flat f
  refine ⟨c, xs, rfl, h1, fx, f1, ?_⟩
  simp only [if_true]
  rw [f2]
  exact k _ H _ O p (Same.refl _) w (.bl _)
theorem flat_strs (ys : List Str) : (ys.map D.str).all D.flat = true := by
  induction ys with
  | nil => rfl
  | cons y ys ih => rw [List.map_cons, List.all_cons, ih]; rfl
theorem inD_strs (x : Str) (ys : List Str) : inD (.str x) (ys.map D.str) = decide (x ∈ ys) := by
  induction ys with
  | nil => rfl
  | cons y ys ih =>
    have e : inD (.str x) ((y :: ys).map D.str) = (eqV (.str y) (.str x) || inD (.str x) (ys.map D.str)) := rfl
    rw [e, ih]
    have e2 : eqV (.str y) (.str x) = decide (x = y) := by
      show (y == x) = decide (x = y)
      by_cases h : x = y
      · subst h; simp
      · have h' : ¬ y = x := fun z => h z.symm
        simp [h, h']
    rw [e2]
    simp [List.mem_cons, Bool.decide_or]
theorem a_inStrs {x : Str} {s : Sl} {ys : List Str} (q : Seq O s (ys.map D.str)) (p : P (.d (.bl (decide (x ∈ ys)))) O) : aR2 K (rIn K false) (.d (.str x)) s O P := a_in rfl rfl q (flat_strs _) (by rw [inD_strs]; exact p)
theorem a_notInStrs {x : Str} {s : Sl} {ys : List Str} (q : Seq O s (ys.map D.str)) (p : P (.d (.bl (!decide (x ∈ ys)))) O) : aR2 K (rIn K true) (.d (.str x)) s O P := a_notIn rfl rfl q (flat_strs _) (by rw [inD_strs]; exact p)
/-- slices -/
def cutD {α : Type} (xs : List α) (lo hi : Option Int) : List α := (xs.drop (HT.sIx xs.length 0 lo)).take (HT.sIx xs.length xs.length hi - HT.sIx xs.length 0 lo)
theorem Dens.cut {G : Hp} {xs : List V} {ds : List D} (h : Dens K G xs ds) (lo hi : Option Int) : Dens K G (cutV xs lo hi) (cutD ds lo hi) := by
  unfold cutV cutD
  rw [h.len]
  exact (h.drop _).take _
theorem wE_sl {r : V → Option Int → Option Int → Hp → VK → Prop} {tl th : TO} (h : wE K te Γ O fun x O1 => wO K tl Γ O1 fun lo O2 => wO K th Γ O2 fun hi O3 => ∀ (H : Hp) (v : V), OwnOk K H O3 → VOk K (hid O3 H) v x → ∀ Q : VK,
    (∀ z H' s O', P s O' → Same (hid O3 H) (hid O' H') → OwnOk K H' O' → VOk K (hid O' H') z s → Q z H') → r v lo hi H Q) : wE K (tSl r te tl th) Γ O P := fun σ H w sl Q q =>
  h σ H w sl _ fun v H1 x O1 hb s1 w1 v1 => hb σ H1 w1 (sl.mono s1) _ fun lo H2 O2 hc s2 w2 => hc σ H2 w2 ((sl.mono s1).mono s2) _ fun hi H3 O3 hr s3 w3 => hr H3 v w3 ((v1.mono s2).mono s3) Q fun z H4 s O4 p s4 w4 z4 => q z H4 s O4 p (((s1.trans s2).trans s3).trans s4) w4 z4
theorem a_slL {s : Sl} {ds : List D} {lo hi : Option Int} (q : SeqL O s ds) (p : P (.d (.lst (cutD ds lo hi))) O) : ∀ (H : Hp) (v : V), OwnOk K H O → VOk K (hid O H) v s → ∀ Q : VK,
    (∀ z H' s O', P s O' → Same (hid O H) (hid O' H') → OwnOk K H' O' → VOk K (hid O' H') z s → Q z H') → rSlL K v lo hi H Q := fun H v w hv Q k => by
  obtain ⟨a, xs, rfl, h1, h2⟩ := q.read w hv
  refine ⟨a, xs, rfl, SqL.of h1, fun p' hp => ?_⟩
  have st := w.alloc (o := .lst (cutV xs lo hi)) hp
  have d := (h2.cut lo hi).mono st.same
  exact k _ _ _ O p st.same (w.step st) (.lst (hid_of upd_same (w.fresh hp)) d.len d.at')
theorem a_slT {x : D} {ds : List D} {lo hi : Option Int} (q : TupD x ds) (p : ∀ y, TupD y (cutD ds lo hi) → P (.d y) O) : ∀ (H : Hp) (v : V), OwnOk K H O → VOk K (hid O H) v (.d x) → ∀ Q : VK,
    (∀ z H' s O', P s O' → Same (hid O H) (hid O' H') → OwnOk K H' O' → VOk K (hid O' H') z s → Q z H') → rSlA K v lo hi H Q := fun H v w hv Q k => by
  obtain ⟨a, xs, rfl, h1, h2⟩ := q.read hv
  refine ⟨a, xs, rfl, seqT hid_same h1, fun ⟨e1, e2⟩ => ?_, fun _ p' hp => ?_⟩
  · have e : cutD ds lo hi = ds := by
      unfold cutD
      rw [← h2.len, e1, e2, h2.len]
      simp
    rw [e] at p
    exact k _ H _ O (p x q) (Same.refl _) w hv
  · have st := w.alloc (o := .tup (cutV xs lo hi)) hp
    have d := (h2.cut lo hi).mono st.same
    exact k _ _ _ O (p _ (.tup _)) st.same (w.step st) (.tup (SqT.of (hid_of upd_same (w.fresh hp))) d.len d.at')
/-- displays -/
theorem SlsOk.alld {G : Hp} {vs : List V} {ds : List D} (h : SlsOk K G vs (ds.map Sl.d)) : Dens K G vs ds := h.dens
theorem wE_tup {t : TA} (h : wA K t Γ O fun ss O1 => ∃ ds, ss = ds.map Sl.d ∧ ds.length ≤ 1000 ∧ P (.d (.tup ds)) O1) : wE K (tTup t) Γ O P := fun σ H w sl Q q =>
  h σ H w sl _ fun vs H1 ss O1 ⟨ds, e, hl, p⟩ s1 w1 v1 => by
    subst e
    have d := v1.dens
    refine ⟨by rw [d.len]; exact Nat.le_trans hl (by decide), fun a ha => ?_⟩
    have st := w1.alloc (o := .tup vs) ha
    have d' := d.mono st.same
    exact q _ _ _ O1 p (s1.trans st.same) (w1.step st) (.tup (SqT.of (hid_of upd_same (w1.fresh ha))) d'.len d'.at')
theorem wE_lst {t : TA} (h : wA K t Γ O fun ss O1 => ∃ ds, ss = ds.map Sl.d ∧ ds.length ≤ 1000 ∧ P (.d (.lst ds)) O1) : wE K (tLst t) Γ O P := fun σ H w sl Q q =>
  h σ H w sl _ fun vs H1 ss O1 ⟨ds, e, hl, p⟩ s1 w1 v1 => by
    subst e
    have d := v1.dens
    refine ⟨by rw [d.len]; exact Nat.le_trans hl (by decide), fun a ha => ?_⟩
    have st := w1.alloc (o := .lst vs) ha
    have d' := d.mono st.same
    exact q _ _ _ O1 p (s1.trans st.same) (w1.step st) (.lst (hid_of upd_same (w1.fresh ha)) d'.len d'.at')
/-- a new list, a new dict of one's own -/
theorem wE_lstOwn (l : Nat) {t : TA} (h : wA K t Γ O fun ss O1 => ∃ ds, ss = ds.map Sl.d ∧ ds.length ≤ 1000 ∧ ∀ a, P (.p l a) ((l, a, .ol ds) :: O1)) : wE K (tLst t) Γ O P := fun σ H w sl Q q =>
  h σ H w sl _ fun vs H1 ss O1 ⟨ds, e, hl, p⟩ s1 w1 v1 => by
    subst e
    have d := v1.dens
    refine ⟨by rw [d.len]; exact Nat.le_trans hl (by decide), fun a ha => ?_⟩
    exact q _ _ _ _ (p a) (s1.trans (hid_cons_new rfl ha)) (w1.newL l ha d) rfl
theorem wE_dnewOwn (l : Nat) (h : ∀ a, P (.p l a) ((l, a, .ok []) :: O)) : wE K tDNewK Γ O P := fun σ H w sl Q q a ha =>
  q _ _ _ _ (h a) (hid_cons_new rfl ha) (w.newK l ha .nil) rfl

/-! ### tests -/
theorem wT_B (h : wE K te Γ O fun x O1 => ∃ b, x = .d (.bl b) ∧ PB b O1) : wT K (tB te) Γ O PB := fun σ H w sl Q q => h σ H w sl _ fun v H1 x O1 ⟨b, e, p⟩ s1 w1 v1 => by
  subst e; cases v1; exact ⟨b, rfl, q b H1 O1 p s1 w1⟩
theorem wT_Test (h : wE K te Γ O fun x O1 => ∃ b, x = .d (.bl b) ∧ PB b O1) : wT K (tTest te) Γ O PB := fun σ H w sl Q q => h σ H w sl _ fun v H1 x O1 ⟨b, e, p⟩ s1 w1 v1 => by
  subst e; cases v1; exact ⟨b, rfl, q b H1 O1 p s1 w1⟩
theorem wT_and (h : wT K tt Γ O fun b O1 => (b = true → wT K tu Γ O1 PB) ∧ (b = false → PB false O1)) : wT K (tAnd tt tu) Γ O PB := fun σ H w sl Q q => h σ H w sl _ fun b H1 O1 ⟨h1, h2⟩ s1 w1 => by
  cases b with
  | true =>
    show tu σ H1 Q
    exact h1 rfl σ H1 w1 (sl.mono s1) Q fun c H2 O2 p s2 w2 => q c H2 O2 p (s1.trans s2) w2
  | false =>
    show Q false H1
    exact q false H1 O1 (h2 rfl) s1 w1
theorem wT_or (h : wT K tt Γ O fun b O1 => (b = false → wT K tu Γ O1 PB) ∧ (b = true → PB true O1)) : wT K (tOr tt tu) Γ O PB := fun σ H w sl Q q => h σ H w sl _ fun b H1 O1 ⟨h1, h2⟩ s1 w1 => by
  cases b with
  | false =>
    show tu σ H1 Q
    exact h1 rfl σ H1 w1 (sl.mono s1) Q fun c H2 O2 p s2 w2 => q c H2 O2 p (s1.trans s2) w2
  | true =>
    show Q true H1
    exact q true H1 O1 (h2 rfl) s1 w1
theorem wT_not (h : wT K tt Γ O fun b O1 => PB (!b) O1) : wT K (tNot tt) Γ O PB := fun σ H w sl Q q => h σ H w sl _ fun b H1 O1 p s1 w1 => q (!b) H1 O1 p s1 w1
theorem wE_andV (h : wE K ta Γ O fun x O1 => ∃ b, x = .d (.bl b) ∧ (b = true → wE K tb Γ O1 P) ∧ (b = false → P (.d (.bl false)) O1)) : wE K (tAndV ta tb) Γ O P := fun σ H w sl Q q => h σ H w sl _ fun v H1 x O1 ⟨b, e, h1, h2⟩ s1 w1 v1 => by
  subst e; cases v1
  refine ⟨b, rfl, ?_⟩
  cases b with
  | true =>
    show tb σ H1 Q
    exact h1 rfl σ H1 w1 (sl.mono s1) Q fun c H2 s O2 p s2 w2 => q c H2 s O2 p (s1.trans s2) w2
  | false =>
    show Q (.bl false) H1
    exact q _ H1 _ O1 (h2 rfl) s1 w1 (.bl _)
theorem wE_orV (h : wE K ta Γ O fun x O1 => ∃ b, x = .d (.bl b) ∧ (b = false → wE K tb Γ O1 P) ∧ (b = true → P (.d (.bl true)) O1)) : wE K (tOrV ta tb) Γ O P := fun σ H w sl Q q => h σ H w sl _ fun v H1 x O1 ⟨b, e, h1, h2⟩ s1 w1 v1 => by
  subst e; cases v1
  refine ⟨b, rfl, ?_⟩
  cases b with
  | false =>
    show tb σ H1 Q
    exact h1 rfl σ H1 w1 (sl.mono s1) Q fun c H2 s O2 p s2 w2 => q c H2 s O2 p (s1.trans s2) w2
  | true =>
    show Q (.bl true) H1
    exact q _ H1 _ O1 (h2 rfl) s1 w1 (.bl _)
theorem wE_notV (h : wE K ta Γ O fun x O1 => ∃ b, x = .d (.bl b) ∧ P (.d (.bl (!b))) O1) : wE K (tNotV ta) Γ O P := fun σ H w sl Q q => h σ H w sl _ fun v H1 x O1 ⟨b, e, p⟩ s1 w1 v1 => by
  subst e; cases v1
  exact ⟨b, rfl, q _ H1 _ O1 p s1 w1 (.bl _)⟩
theorem wE_if (h : wT K tt Γ O fun b O1 => (b = true → wE K ta Γ O1 P) ∧ (b = false → wE K tb Γ O1 P)) : wE K (tIf tt ta tb) Γ O P := fun σ H w sl Q q => h σ H w sl _ fun b H1 O1 ⟨h1, h2⟩ s1 w1 => by
  cases b with
  | true =>
    show ta σ H1 Q
    exact h1 rfl σ H1 w1 (sl.mono s1) Q fun c H2 s O2 p s2 w2 => q c H2 s O2 p (s1.trans s2) w2
  | false =>
    show tb σ H1 Q
    exact h2 rfl σ H1 w1 (sl.mono s1) Q fun c H2 s O2 p s2 w2 => q c H2 s O2 p (s1.trans s2) w2
theorem wE_chain {r r' : R2} (h : wE K ta Γ O fun x O1 => wE K tb Γ O1 fun y O2 => aR2 K r x y O2 fun z O3 => ∃ k, z = .d (.bl k) ∧ (k = true → wE K tc Γ O3 fun w O4 => aR2 K r' y w O4 P) ∧ (k = false → P (.d (.bl false)) O3)) : wE K (tChain r r' ta tb tc) Γ O P := fun σ H w sl Q q =>
  h σ H w sl _ fun v H1 x O1 hb s1 w1 v1 => hb σ H1 w1 (sl.mono s1) _ fun u H2 y O2 hr s2 w2 u2 => hr H2 v u w2 (v1.mono s2) u2 _ fun z H3 s O3 ⟨k, e, h1, h2⟩ s3 w3 z3 => by
    subst e; cases z3
    refine ⟨k, rfl, ?_⟩
    cases k with
    | true =>
      show tc σ H3 _
      exact h1 rfl σ H3 w3 (sl.mono ((s1.trans s2).trans s3)) _ fun t H4 x4 O4 hr' s4 w4 t4 => hr' H4 u t w4 ((u2.mono s3).mono s4) t4 Q fun z H5 s O5 p s5 w5 z5 => q z H5 s O5 p ((((s1.trans s2).trans s3).trans s4).trans s5) w5 z5
    | false =>
      show Q (.bl false) H3
      exact q _ H3 _ O3 (h2 rfl) ((s1.trans s2).trans s3) w3 (.bl _)
end
end Y

namespace Y
open PySem L2
variable {K : PySem.W.Frag}

/-! ### leaving what is owned -/
theorem dropO_mem : ∀ {O : OO} {l : Nat} {e : Nat × Addr × OD}, e ∈ dropO O l → e ∈ O
  | [], l, e, h => by simp [dropO] at h
  | (m, b, u) :: r, l, e, h => by
    unfold dropO at h
    by_cases hm : m = l
    · rw [if_pos hm] at h; exact List.mem_cons_of_mem _ h
    · rw [if_neg hm] at h
      rcases List.mem_cons.mp h with rfl | h
      · exact List.mem_cons_self
      · exact List.mem_cons_of_mem _ (dropO_mem h)
theorem dropO_dom : ∀ {O : OO} {l : Nat} {b : Addr}, b ∈ odom (dropO O l) → b ∈ odom O
  | [], l, b, h => by simp [dropO] at h; exact h
  | (m, c, u) :: r, l, b, h => by
    unfold dropO at h
    by_cases hm : m = l
    · rw [if_pos hm] at h; exact List.mem_append_right _ h
    · rw [if_neg hm] at h
      rcases List.mem_append.mp h with h | h
      · exact List.mem_append_left _ h
      · exact List.mem_append_right _ (dropO_dom h)
theorem dropO_nd : ∀ {O : OO} {l : Nat}, (odom O).Nodup → (odom (dropO O l)).Nodup
  | [], l, h => h
  | (m, c, u) :: r, l, h => by
    unfold dropO
    have h' := List.nodup_append.mp h
    by_cases hm : m = l
    · rw [if_pos hm]; exact h'.2.1
    · rw [if_neg hm]
      exact List.nodup_append.mpr ⟨h'.1, dropO_nd h'.2.1, fun a ha b hb => h'.2.2 a ha b (dropO_dom hb)⟩
theorem dropO_out : ∀ {O : OO} {l : Nat} {a : Addr} {o : OD}, (odom O).Nodup → look O l = some (a, o) → ∀ b ∈ oad a o, b ∉ odom (dropO O l)
  | [], l, a, o, nd, h, b, hb => by simp [look] at h
  | (m, c, u) :: r, l, a, o, nd, h, b, hb => by
    have nd' := List.nodup_append.mp nd
    unfold look at h
    unfold dropO
    by_cases hm : m = l
    · rw [if_pos hm] at h
      cases h
      rw [if_pos hm]
      exact fun z => nd'.2.2 b hb b z rfl
    · rw [if_neg hm] at h
      rw [if_neg hm]
      intro z
      rcases List.mem_append.mp z with z | z
      · obtain ⟨m', hm'⟩ := look_mem h
        exact nd'.2.2 b z b (mem_odom hm' b hb) rfl
      · exact dropO_out nd'.2.1 h b hb z
theorem hid_dropO {H : Hp} {O : OO} {l : Nat} : Same (hid O H) (hid (dropO O l) H) := fun a u h => by
  obtain ⟨e1, e2⟩ := hid_some h
  exact hid_of e1 fun z => e2 (dropO_dom z)
theorem OwnOk.dropO {H : Hp} {O : OO} (w : OwnOk K H O) (l : Nat) : OwnOk K H (dropO O l) :=
  ⟨dropO_nd w.nd, fun f hf => (w.ok f (dropO_mem hf)).mono hid_dropO fun _ _ => rfl⟩
section
variable {Γ : GG} {O : OO} {te ta tb tc : TE} {tt tu : TT} {P : Sl → OO → Prop} {PB : Bool → OO → Prop}
/-- a list of one's own becomes data -/
theorem wE_pub (h : wE K te Γ O fun s O1 => ∃ l a ds, s = .p l a ∧ look O1 l = some (a, .ol ds) ∧ P (.d (.lst ds)) (dropO O1 l)) : wE K te Γ O P := fun σ H w sl Q q =>
  h σ H w sl Q fun v H1 s O1 ⟨l, a, ds, e, hl, p⟩ s1 w1 v1 => by
    subst e
    obtain ⟨xs, h1, h2⟩ := w1.at' hl
    have d := h2.mono (hid_dropO (l := l))
    refine q v H1 _ _ p (s1.trans hid_dropO) (w1.dropO l) ?_
    have e : v = .ref a := v1
    subst e
    exact .lst (hid_of h1 (dropO_out w1.nd hl a oad_self)) d.len d.at'
/-- an instance of one's own becomes data -/
theorem wE_pubI (h : wE K te Γ O fun s O1 => ∃ l a C dx fs, s = .p l a ∧ look O1 l = some (a, .oi C dx fs) ∧ P (.d (.obj C fs)) (dropO O1 l)) : wE K te Γ O P := fun σ H w sl Q q =>
  h σ H w sl Q fun v H1 s O1 ⟨l, a, C, dx, fs, e, hl, p⟩ s1 w1 v1 => by
    subst e
    obtain ⟨xs, h1, h2⟩ := w1.at' hl
    have d := h2.mono (hid_dropO (l := l))
    refine q v H1 _ _ p (s1.trans hid_dropO) (w1.dropO l) ?_
    have e : v = .ref a := v1
    subst e
    exact .obj (hid_of h1 (dropO_out w1.nd hl a oad_self)) d.keys d.at'
/-- .. a dict, locked for good -/
def tFrz (te : TE) : TE := fun σ H Q => te σ H fun v H1 => ∃ a ps, v = .ref a ∧ H1 a = some (.dK ps) ∧ ∀ od, Q v (upd H1 a (.frz od (.dK ps)))
theorem pe_frz {X : Cx} {e : Expr} (h : PE X e te) : PE X e (tFrz te) := by
  refine ⟨fun pins s σ H Q I hw => ?_⟩
  refine thn (h.run pins s σ _ _ I hw) fun u s1 ⟨v, H1, I1, r, a, ps, ev, ha, q⟩ => ?_
  obtain ⟨od, I2⟩ := I1.lock ha trivial
  exact ⟨v, _, I2, r, q od⟩
theorem frz_step {H : Hp} {O : OO} (w : OwnOk K H O) {l : Nat} {a : Addr} {kvs : List (Str × D)} (hl : look O l = some (a, .ok kvs)) : ∃ ps, H a = some (.dK ps) ∧ ∀ od, Same (hid O H) (hid (dropO O l) (upd H a (.frz od (.dK ps)))) ∧ OwnOk K (upd H a (.frz od (.dK ps))) (dropO O l) ∧ Den K (hid (dropO O l) (upd H a (.frz od (.dK ps)))) (.ref a) (.dct kvs) := by
  obtain ⟨ps, h1, h2⟩ := w.at' hl
  refine ⟨ps, h1, fun od => ?_⟩
  have na : a ∉ odom (Y.dropO O l) := dropO_out w.nd hl a oad_self
  have s : Same (hid O H) (hid (Y.dropO O l) (upd H a (.frz od (.dK ps)))) := fun b u hb => by
    obtain ⟨e1, e2⟩ := hid_some hb
    exact hid_of (by rw [upd_ne (fun z => e2 (by rw [z]; exact look_dom hl))]; exact e1) fun z => e2 (dropO_dom z)
  refine ⟨s, ⟨dropO_nd w.nd, fun f hf => ?_⟩, ?_⟩
  · refine (w.ok f (dropO_mem hf)).mono s fun b hb => ?_
    exact upd_ne fun z => na (by rw [← z]; exact mem_odom (l := f.1) (a := f.2.1) (o := f.2.2) hf b hb)
  · have d := h2.mono s
    exact .dct (o := od) (ps := ps) (hid_of upd_same na) d.keys d.at'
theorem wE_frz (h : wE K te Γ O fun s O1 => ∃ l a kvs, s = .p l a ∧ look O1 l = some (a, .ok kvs) ∧ P (.d (.dct kvs)) (dropO O1 l)) : wE K (tFrz te) Γ O P := fun σ H w sl Q q =>
  h σ H w sl _ fun v H1 s O1 ⟨l, a, kvs, e, hl, p⟩ s1 w1 v1 => by
    subst e
    have e : v = .ref a := v1
    subst e
    obtain ⟨ps, h1, h2⟩ := frz_step w1 hl
    refine ⟨a, ps, rfl, h1, fun od => ?_⟩
    obtain ⟨h3, h4, h5⟩ := h2 od
    exact q _ _ _ _ p (s1.trans h3) h4 h5
/-- one thing less owned -/
theorem wE_forget (l : Nat) (h : wE K te Γ O fun s O1 => P s (dropO O1 l)) : wE K te Γ O P := fun σ H w sl Q q =>
  h σ H w sl Q fun v H1 s O1 p s1 w1 v1 => q v H1 s _ p (s1.trans hid_dropO) (w1.dropO l) (v1.mono hid_dropO)

/-! ### attributes -/
theorem lookF {G : Hp} : ∀ {fs : List (Str × D)} {ps : List (Str × V)} (x : Str) {d : D}, DenF K G ps fs → fs.lookup x = some d → ∃ v, ps.lookup x = some v ∧ Den K G v d
  | [], ps, x, d, h, e => by simp at e
  | (k, d0) :: fs, ps, x, d, h, e => by
    obtain ⟨v, r, rfl, hv, hr⟩ := h.uncons
    rw [List.lookup_cons] at e ⊢
    cases hx : (x == k) with
    | true => rw [hx] at e; cases e; exact ⟨v, rfl, hv⟩
    | false => rw [hx] at e; exact lookF x hr e
inductive Ins (O : OO) : Sl → Addr → List (Str × D) → Prop where
  | obj (C : Addr) (fs : List (Str × D)) : Ins O (.d (.obj C fs)) C fs
  | own {l : Nat} {a C dx : Addr} {fs : List (Str × D)} (h : look O l = some (a, .oi C dx fs)) : Ins O (.p l a) C fs
theorem Ins.read {H : Hp} {v : V} {s : Sl} {C : Addr} {fs : List (Str × D)} (q : Ins O s C fs) (w : OwnOk K H O) (h : VOk K (hid O H) v s) : ∃ a dx ps, v = .ref a ∧ H a = some (.ins C dx ps) ∧ DenF K (hid O H) ps fs := by
  cases q with
  | obj =>
    cases h with
    | obj h hk hd => exact ⟨_, _, _, rfl, (hid_some h).1, hk, hd⟩
  | own hl =>
    obtain ⟨xs, h1, h2⟩ := w.at' hl
    exact ⟨_, _, xs, h, h1, h2⟩
theorem wE_fld {f : Str} (h : wE K te Γ O fun s O1 => ∃ C fs d, Ins O1 s C fs ∧ Cls K C ∧ NoAttr K C f ∧ fs.lookup f = some d ∧ P (.d d) O1) : wE K (tFld K te f) Γ O P := fun σ H w sl Q q =>
  h σ H w sl _ fun v H1 s O1 ⟨C, fs, d, hi, c, n, e, p⟩ s1 w1 v1 => by
    obtain ⟨a, dx, ps, rfl, h1, h2⟩ := hi.read w1 v1
    obtain ⟨u, h3, h4⟩ := lookF f h2 e
    exact ⟨a, C, dx, ps, u, rfl, h1, c, n, h3, q u H1 _ O1 p s1 w1 h4⟩

/-! ### dicts -/
inductive Dct (O : OO) : Sl → List (Str × D) → Prop where
  | dct (kvs : List (Str × D)) : Dct O (.d (.dct kvs)) kvs
  | own {l : Nat} {a : Addr} {kvs : List (Str × D)} (h : look O l = some (a, .ok kvs)) : Dct O (.p l a) kvs
theorem Dct.read {H : Hp} {v : V} {s : Sl} {kvs : List (Str × D)} (q : Dct O s kvs) (w : OwnOk K H O) (h : VOk K (hid O H) v s) : ∃ a ps, v = .ref a ∧ Rd H a (.dK ps) ∧ DenK K (hid O H) ps kvs := by
  cases q with
  | dct =>
    cases h with
    | dct h hk hd => exact ⟨_, _, rfl, .inr ⟨_, (hid_some h).1⟩, hk, hd⟩
  | own hl =>
    obtain ⟨xs, h1, h2⟩ := w.at' hl
    exact ⟨_, xs, h, .inl h1, h2⟩
theorem wE_dget (h : wE K ta Γ O fun s O1 => wE K tb Γ O1 fun y O2 => ∃ kvs k d, Dct O2 s kvs ∧ y = .d (.str k) ∧ lookD kvs k = some d ∧ P (.d d) O2) : wE K (tDGet ta tb) Γ O P := fun σ H w sl Q q =>
  h σ H w sl _ fun v H1 s O1 hb s1 w1 v1 => hb σ H1 w1 (sl.mono s1) _ fun u H2 y O2 ⟨kvs, k, d, hd, ey, el, p⟩ s2 w2 u2 => by
    subst ey; cases u2
    obtain ⟨a, ps, rfl, h1, h2⟩ := hd.read w2 (v1.mono s2)
    obtain ⟨x, h3, h4⟩ := (h2.look k).2 d el
    exact ⟨a, x, rfl, .inl ⟨ps, .inr k, h1, rfl, h3.symm⟩, q x H2 _ O2 p (s1.trans s2) w2 h4⟩
theorem look_some {G : Hp} {kvs : List (Str × D)} {ps : List (Key × V)} (h : DenK K G ps kvs) (k : Str) : (valV ps (.inr k : Key)).isSome = (lookD kvs k).isSome := by
  cases e : lookD kvs k with
  | none => rw [(h.look k).1 e]; rfl
  | some d =>
    obtain ⟨x, h3, h4⟩ := (h.look k).2 d e
    rw [h3]; rfl
theorem wE_din (h : wE K tb Γ O fun y O1 => wE K ta Γ O1 fun s O2 => ∃ kvs k, Dct O2 s kvs ∧ y = .d (.str k) ∧ P (.d (.bl (lookD kvs k).isSome)) O2) : wE K (tDIn tb ta) Γ O P := fun σ H w sl Q q =>
  h σ H w sl _ fun v H1 s O1 hb s1 w1 v1 => hb σ H1 w1 (sl.mono s1) _ fun u H2 y O2 ⟨kvs, k, hd, ey, p⟩ s2 w2 u2 => by
    subst ey; have v2 := v1.mono s2; cases v2
    obtain ⟨a, ps, rfl, h1, h2⟩ := hd.read w2 u2
    refine ⟨a, _, rfl, .inl ⟨ps, .inr k, h1, rfl, rfl⟩, ?_⟩
    rw [look_some h2]
    exact q _ H2 _ O2 p (s1.trans s2) w2 (.bl _)
theorem wE_dnotin (h : wE K tb Γ O fun y O1 => wE K ta Γ O1 fun s O2 => ∃ kvs k, Dct O2 s kvs ∧ y = .d (.str k) ∧ P (.d (.bl (!(lookD kvs k).isSome))) O2) : wE K (tDNotIn tb ta) Γ O P := fun σ H w sl Q q =>
  h σ H w sl _ fun v H1 s O1 hb s1 w1 v1 => hb σ H1 w1 (sl.mono s1) _ fun u H2 y O2 ⟨kvs, k, hd, ey, p⟩ s2 w2 u2 => by
    subst ey; have v2 := v1.mono s2; cases v2
    obtain ⟨a, ps, rfl, h1, h2⟩ := hd.read w2 u2
    refine ⟨a, _, rfl, .inl ⟨ps, .inr k, h1, rfl, rfl⟩, ?_⟩
    rw [look_some h2]
    exact q _ H2 _ O2 p (s1.trans s2) w2 (.bl _)
theorem DenK.any {G : Hp} (k : Str) : ∀ {kvs : List (Str × D)} {ps : List (Key × V)}, DenK K G ps kvs → (ps.any fun kv => decide (kv.1 = (Sum.inr k : Key))) = kvs.any fun p => decide (p.1 = k)
  | [], ps, h => by obtain rfl := h.nil_of; rfl
  | (k0, d0) :: kvs, ps, h => by
    obtain ⟨v0, r, rfl, h0, hr⟩ := h.uncons
    rw [List.any_cons, List.any_cons, DenK.any k hr]
    show (decide ((Sum.inr k0 : Key) = Sum.inr k) || _) = (decide (k0 = k) || _)
    rw [key_rr]
theorem DenK.repl {G : Hp} (k : Str) {v : V} {d : D} (hv : Den K G v d) : ∀ {kvs : List (Str × D)} {ps : List (Key × V)}, DenK K G ps kvs → DenK K G (ps.map fun kv => if kv.1 = (Sum.inr k : Key) then (kv.1, v) else kv) (kvs.map fun p => if p.1 = k then (p.1, d) else p)
  | [], ps, h => by obtain rfl := h.nil_of; exact .nil
  | (k0, d0) :: kvs, ps, h => by
    obtain ⟨v0, r, rfl, h0, hr⟩ := h.uncons
    rw [List.map_cons, List.map_cons]
    by_cases e : k0 = k
    · rw [if_pos (show ((Sum.inr k0 : Key), v0).1 = Sum.inr k from congrArg Sum.inr e), if_pos (show (k0, d0).1 = k from e)]
      exact .cons hv (DenK.repl k hv hr)
    · rw [if_neg (show ¬ ((Sum.inr k0 : Key), v0).1 = Sum.inr k from fun z => e (Sum.inr.inj z)), if_neg (show ¬ (k0, d0).1 = k from e)]
      exact .cons h0 (DenK.repl k hv hr)
theorem DenK.append {G : Hp} : ∀ {kvs ls : List (Str × D)} {ps qs : List (Key × V)}, DenK K G ps kvs → DenK K G qs ls → DenK K G (ps ++ qs) (kvs ++ ls)
  | [], ls, ps, qs, h, g => by obtain rfl := h.nil_of; exact g
  | (k0, d0) :: kvs, ls, ps, qs, h, g => by
    obtain ⟨v0, r, rfl, h0, hr⟩ := h.uncons
    exact .cons h0 (DenK.append hr g)
theorem DenK.put {G : Hp} {kvs : List (Str × D)} {ps : List (Key × V)} (k : Str) {v : V} {d : D} (h : DenK K G ps kvs) (hv : Den K G v d) : DenK K G (putK ps (.inr k : Key) v) (putD kvs k d) := by
  unfold putK putD
  rw [DenK.any k h]
  by_cases e : (kvs.any fun p => decide (p.1 = k)) = true
  · rw [if_pos e, if_pos e]; exact DenK.repl k hv h
  · rw [if_neg e, if_neg e]; exact DenK.append h (.cons hv .nil)

/-! ### statements -/
variable {A : AE} {ts tw : TS} {g : TG}
theorem wS_seq (h : wS K ts Γ O { A with nx := fun Γ1 O1 => wS K tw Γ1 O1 A }) : wS K (tSeq ts tw) Γ O A := fun σ H D w sl e =>
  h σ H { D with nx := tw D } w sl ⟨fun σ' H' Γ' O' p s w' sl' => p σ' H' D w' sl' (e.mono s), e.rt, e.bk, e.ct⟩
theorem wS_next (h : A.nx Γ O) : wS K tNext Γ O A := fun σ H D w sl e => e.nx σ H Γ O h (Same.refl _) w sl
theorem wS_brk (h : A.bk Γ O) : wS K tBreak Γ O A := fun σ H D w sl e => e.bk σ H Γ O h (Same.refl _) w sl
theorem wS_cont (h : A.ct Γ O) : wS K tCont Γ O A := fun σ H D w sl e => e.ct σ H Γ O h (Same.refl _) w sl
theorem wS_asg (h : wE K te Γ O fun s O1 => wG K g s Γ O1 A.nx) : wS K (tAsg te g) Γ O A := fun σ H D w sl e =>
  h σ H w sl _ fun v H1 s O1 hg s1 w1 v1 => hg v σ H1 w1 (sl.mono s1) v1 D.nx fun σ' H' Γ' O' p s2 w2 sl2 => e.nx σ' H' Γ' O' p (s1.trans s2) w2 sl2
theorem wG_name {i : Nat} {s : Sl} {PG : GG → OO → Prop} (p : PG (Γ.set i (some s)) O) : wG K (gName i) s Γ O PG := fun v σ H w sl hv Q q => q _ H _ O p (Same.refl _) w (sl.set i hv)
theorem wS_set {i : Nat} (h : wE K te Γ O fun s O1 => A.nx (Γ.set i (some s)) O1) : wS K (tAsg te (gName i)) Γ O A := wS_asg (h.imp fun _ _ p => wG_name p)
theorem wGs_nil {PG : GG → OO → Prop} (p : PG Γ O) : wGs K gNil [] Γ O PG := fun vs σ H w sl hv Q q => ⟨hv.nil_of, q σ H Γ O p (Same.refl _) w sl⟩
theorem wGs_cons {t : TG} {u : TGs} {s : Sl} {ss : List Sl} {PG : GG → OO → Prop} (h : wG K t s Γ O fun Γ1 O1 => wGs K u ss Γ1 O1 PG) : wGs K (gCons t u) (s :: ss) Γ O PG := fun vs σ H w sl hv Q q => by
  obtain ⟨v, r, rfl, h1, h2⟩ := hv.uncons
  exact ⟨v, r, rfl, h v σ H w sl h1 _ fun σ1 H1 Γ1 O1 hu s1 w1 sl1 => hu r σ1 H1 w1 sl1 (h2.mono s1) Q fun σ' H' Γ' O' p s2 w2 sl2 => q σ' H' Γ' O' p (s1.trans s2) w2 sl2⟩
theorem wG_tup {n : Nat} {t : TGs} {ds : List D} {PG : GG → OO → Prop} (hn : ds.length = n) (h : wGs K t (ds.map Sl.d) Γ O PG) : wG K (gTup K n t) (.d (.tup ds)) Γ O PG := fun v σ H w sl hv Q q => by
  cases hv with
  | tup hh hl hd =>
    rename_i a xs
    exact ⟨a, xs, rfl, seqT hid_same hh, hl.trans hn, h xs σ H w sl ⟨by simpa using hl, fun i x s a b => by
      rw [List.getElem?_map] at b
      cases e : ds[i]? with
      | none => rw [e] at b; cases b
      | some d => rw [e] at b; cases b; exact hd i x d a e⟩ Q q⟩
theorem wS_par {i j : Nat} {ta : TA} (h : wA K ta Γ O fun ss O1 => ∃ x y, ss = [x, y] ∧ A.nx ((Γ.set i (some x)).set j (some y)) O1) : wS K (tPar i j ta) Γ O A := fun σ H D w sl e =>
  h σ H w sl _ fun vs H1 ss O1 ⟨x, y, es, p⟩ s1 w1 v1 => by
    subst es
    obtain ⟨u, r, rfl, h1, h2⟩ := v1.uncons
    obtain ⟨u', r', rfl, h3, h4⟩ := h2.uncons
    obtain rfl := h4.nil_of
    exact ⟨u, u', rfl, e.nx _ H1 _ O1 p s1 w1 (((sl.mono s1).set i h1).set j h3)⟩
theorem wS_drop (h : wE K te Γ O fun _ O1 => A.nx Γ O1) : wS K (tDrop te) Γ O A := fun σ H D w sl e => h σ H w sl _ fun v H1 s O1 p s1 w1 _ => e.nx σ H1 Γ O1 p s1 w1 (sl.mono s1)
theorem wS_ret (h : wE K te Γ O A.rt) : wS K (tRet te) Γ O A := fun σ H D w sl e => h σ H w sl _ fun v H1 s O1 p s1 w1 v1 => e.rt v H1 s O1 p s1 w1 v1
theorem wS_if (h : wT K tt Γ O fun b O1 => (b = true → wS K ts Γ O1 A) ∧ (b = false → wS K tw Γ O1 A)) : wS K (tIfS tt ts tw) Γ O A := fun σ H D w sl e => h σ H w sl _ fun b H1 O1 ⟨h1, h2⟩ s1 w1 => by
  cases b with
  | true =>
    show ts D σ H1
    exact h1 rfl σ H1 D w1 (sl.mono s1) (e.mono s1)
  | false =>
    show tw D σ H1
    exact h2 rfl σ H1 D w1 (sl.mono s1) (e.mono s1)
theorem wS_imp {A' : AE} (h : wS K ts Γ O A) (n : ∀ a b, A.nx a b → A'.nx a b) (r : ∀ a b, A.rt a b → A'.rt a b) (bk : ∀ a b, A.bk a b → A'.bk a b) (ct : ∀ a b, A.ct a b → A'.ct a b) : wS K ts Γ O A' := fun σ H D w sl e =>
  h σ H D w sl ⟨fun a b c d p => e.nx a b c d (n _ _ p), fun a b c d p => e.rt a b c d (r _ _ p), fun a b c d p => e.bk a b c d (bk _ _ p), fun a b c d p => e.ct a b c d (ct _ _ p)⟩
/-- d[k] = v, d owned -/
theorem wS_dput {td ty tv : TE} (h : wE K tv Γ O fun v O1 => wE K td Γ O1 fun s O2 => wE K ty Γ O2 fun y O3 => ∃ d l a kvs k, v = .d d ∧ s = .p l a ∧ look O3 l = some (a, .ok kvs) ∧ y = .d (.str k) ∧ kvs.length < 100000 ∧ A.nx Γ (setO O3 l (.ok (putD kvs k d)))) : wS K (sDPut td ty tv) Γ O A := fun σ H D w sl e =>
  h σ H w sl _ fun v H1 sv O1 hb s1 w1 v1 => hb σ H1 w1 (sl.mono s1) _ fun u H2 su O2 hc s2 w2 u2 => hc σ H2 w2 ((sl.mono s1).mono s2) _ fun y H3 sy O3 ⟨d, l, a, kvs, k, e1, e2, hl, e3, hz, p⟩ s3 w3 y3 => by
    subst e1 e2 e3
    have eu : u = .ref a := u2
    subst eu
    cases y3
    obtain ⟨ps, h1, h2⟩ := w3.at' hl
    have hz' : ps.length < sizeLine := by rw [h2.len]; exact Nat.lt_of_lt_of_le hz (by decide)
    have vd : Den K (hid O3 H3) v d := Den.mono s3 (Den.mono s2 v1)
    obtain ⟨w4, s4⟩ := w3.write (H' := upd H3 a (.dK (putK ps (.inr k) v))) hl (q := .ok (putD kvs k d)) rfl (fun b hb => upd_ne (by simpa [oad] using hb)) ⟨_, upd_same, h2.put k vd⟩
    exact ⟨a, _, rfl, .inl ⟨ps, .inr k, h1, rfl, hz', rfl⟩, e.nx σ _ Γ _ p (((s1.trans s2).trans s3).trans s4) w4 ((((sl.mono s1).mono s2).mono s3).mono s4)⟩
def putF' : Str → D → List (Str × D) → List (Str × D)
  | f, d, [] => [(f, d)]
  | f, d, (k, e) :: r => if k = f then (k, d) :: r else (k, e) :: putF' f d r
theorem DenF.put {G : Hp} : ∀ {fs : List (Str × D)} {ps : List (Str × V)} (f : Str) {v : V} {d : D}, DenF K G ps fs → Den K G v d → DenF K G (putF f v ps) (putF' f d fs)
  | [], ps, k, v, d, h, hv => by
    obtain rfl := h.nil_of
    exact .cons hv .nil
  | (k0, d0) :: kvs, ps, k, v, d, h, hv => by
    obtain ⟨v0, r, rfl, h0, hr⟩ := h.uncons
    by_cases e : k0 = k
    · subst e
      have e1 : putF k0 v ((k0, v0) :: r) = (k0, v) :: r := by simp [putF]
      have e2 : putF' k0 d ((k0, d0) :: kvs) = (k0, d) :: kvs := by simp [putF']
      rw [e1, e2]
      exact .cons hv hr
    · have e1 : putF k v ((k0, v0) :: r) = (k0, v0) :: putF k v r := by simp [putF, e]
      have e2 : putF' k d ((k0, d0) :: kvs) = (k0, d0) :: putF' k d kvs := by simp [putF', e]
      rw [e1, e2]
      exact .cons h0 (DenF.put k hr hv)
/-- self.f = e, self owned -/
theorem wS_fld {tv : TE} {f : Str} (h : wE K tv Γ O fun v O1 => wE K ta Γ O1 fun s O2 => ∃ d l a C dx fs, v = .d d ∧ s = .p l a ∧ look O2 l = some (a, .oi C dx fs) ∧ Cls K C ∧ NoAttr K C f ∧ fs.length < 1000 ∧ A.nx Γ (setO O2 l (.oi C dx (putF' f d fs)))) : wS K (sFld K ta tv f) Γ O A := fun σ H D w sl e =>
  h σ H w sl _ fun v H1 sv O1 hb s1 w1 v1 => hb σ H1 w1 (sl.mono s1) _ fun u H2 su O2 ⟨d, l, a, C, dx, fs, e1, e2, hl, c, n, hz, p⟩ s2 w2 u2 => by
    subst e1 e2
    have eu : u = .ref a := u2
    subst eu
    obtain ⟨ps, h1, h2⟩ := w2.at' hl
    have hlen : ps.length = fs.length := by have := congrArg List.length h2.keys; simpa using this
    have vd : Den K (hid O2 H2) v d := Den.mono s2 v1
    obtain ⟨w4, s4⟩ := w2.write (H' := upd H2 a (.ins C dx (putF f v ps))) hl (q := .oi C dx (putF' f d fs)) rfl (fun b hb => upd_ne (by simpa [oad] using hb)) ⟨_, upd_same, h2.put f vd⟩
    exact ⟨a, C, dx, ps, rfl, h1, c, n, by rw [hlen]; exact hz, e.nx σ _ Γ _ p ((s1.trans s2).trans s4) w4 (((sl.mono s1).mono s2).mono s4)⟩
/-- xs.append(e) as a call -/
theorem a_append {l : Nat} {a : Addr} {ds : List D} {x : D} (hl : look O l = some (a, .ol ds)) (hz : ds.length < 100000) (p : P (.d .non) (setO O l (.ol (ds ++ [x])))) : aRM K rAppend (.p l a) [.d x] O P := fun H v vs w hv hs Q q => by
  obtain ⟨u, r, rfl, h1, h2⟩ := hs.uncons
  obtain rfl := h2.nil_of
  have ev : v = .ref a := hv
  subst ev
  obtain ⟨xs, e1, e2⟩ := w.at' hl
  obtain ⟨w4, s4⟩ := w.write (H' := upd H a (.lst (xs ++ [u]))) hl (q := .ol (ds ++ [x])) rfl (fun b hb => upd_ne (by simpa [oad] using hb)) ⟨_, upd_same, e2.append (.cons h1 .nil)⟩
  exact ⟨a, xs, u, rfl, rfl, e1, by rw [e2.len]; exact Nat.lt_of_lt_of_le hz (by decide), q _ _ _ _ p s4 w4 .non⟩
theorem tyV_list {H : Hp} {v : V} {s : Sl} {ds : List D} (q : SeqL O s ds) (w : OwnOk K H O) (h : VOk K (hid O H) v s) : tyV K "list" v H := by
  obtain ⟨a, xs, rfl, h1, _⟩ := q.read w h
  exact .inl ⟨rfl, xs, SqL.of h1⟩
theorem wE_bmL {r : V → List V → Hp → VK → Prop} {t : TA} (h : wE K te Γ O fun s O1 => ∃ ds, SeqL O1 s ds ∧ wA K t Γ O1 fun ss O2 => aRM K r s ss O2 P) : wE K (tBM K "list" r te t) Γ O P := fun σ H w sl Q q =>
  h σ H w sl _ fun v H1 s O1 ⟨ds, hq, hb⟩ s1 w1 v1 => ⟨tyV_list hq w1 v1, hb σ H1 w1 (sl.mono s1) _ fun vs H2 ss O2 hr s2 w2 v2 => hr H2 v vs w2 (v1.mono s2) v2 Q fun z H3 s O3 p s3 w3 z3 => q z H3 s O3 p ((s1.trans s2).trans s3) w3 z3⟩
theorem wE_bm0L {r : V → List V → Hp → VK → Prop} (h : wE K te Γ O fun s O1 => ∃ ds, SeqL O1 s ds ∧ aRM K r s [] O1 P) : wE K (tBM0 K "list" r te) Γ O P := fun σ H w sl Q q =>
  h σ H w sl _ fun v H1 s O1 ⟨ds, hq, hr⟩ s1 w1 v1 => ⟨tyV_list hq w1 v1, hr H1 v [] w1 v1 .nil Q fun z H3 s O3 p s3 w3 z3 => q z H3 s O3 p (s1.trans s3) w3 z3⟩

/-! ### loops -/
def ItOk (K : PySem.W.Frag) (J : It) (ds : List D) (C : OO → Prop) (G0 : Hp) : Prop := ∀ (i : Nat) (H : Hp) (O : OO), C O → OwnOk K H O → Same G0 (hid O H) →
  (ds.length ≤ i → i ≤ ds.length → J.stop i H) ∧ ∀ d, ds[i]? = some d → J.go i H ∧ ∀ x H', J.yld i H x H' → PStep O H H' ∧ Den K (hid O H') x d
def wI (K : PySem.W.Frag) (wi : TI) (Γ : GG) (O : OO) (P : List D → (OO → Prop) → OO → Prop) : Prop := ∀ (σ : L2.St) (H : Hp), OwnOk K H O → SlOk K (hid O H) σ Γ → ∀ R : It → Hp → Prop,
  (∀ J H' ds C O', P ds C O' → Same (hid O H) (hid O' H') → OwnOk K H' O' → ItOk K J ds C (hid O' H') → R J H') → wi σ H R
theorem wS_for {wi : TI} (h : wI K wi Γ O fun ds C O1 => ∃ I : Nat → GG → OO → Prop, I 0 Γ O1 ∧ (∀ i Γ' O', I i Γ' O' → C O') ∧
    (∀ i d Γ' O', ds[i]? = some d → I i Γ' O' → wG K g (.d d) Γ' O' fun Γ2 O2 => wS K ts Γ2 O2 { A with nx := I (i + 1), ct := I (i + 1), bk := A.nx }) ∧ ∀ Γ' O', I ds.length Γ' O' → A.nx Γ' O') : wS K (tFor wi g ts) Γ O A := fun σ H D w sl e =>
  h σ H w sl _ fun J H1 ds C O1 ⟨I, h0, hC, hs, hd⟩ s1 w1 it => by
    refine ⟨fun i m σ' H' => m = ds.length - i ∧ i ≤ ds.length ∧ ∃ Γ' O', I i Γ' O' ∧ Same (hid O1 H1) (hid O' H') ∧ OwnOk K H' O' ∧ SlOk K (hid O' H') σ' Γ', ⟨_, rfl, Nat.zero_le _, Γ, O1, h0, Same.refl _, w1, sl.mono s1⟩, ?_⟩
    rintro i m σ' H' ⟨rfl, hi, Γ', O', hI, s2, w2, sl2⟩
    obtain ⟨h1, h2⟩ := it i H' O' (hC i Γ' O' hI) w2 s2
    by_cases hlt : i < ds.length
    · obtain ⟨hg, hy⟩ := h2 ds[i] (List.getElem?_eq_getElem hlt)
      refine .inr ⟨hg, fun σ3 H3 => ∃ Γ3 O3, I (i + 1) Γ3 O3 ∧ Same (hid O1 H1) (hid O3 H3) ∧ OwnOk K H3 O3 ∧ SlOk K (hid O3 H3) σ3 Γ3, fun σ3 H3 q => ⟨_, by omega, rfl, hlt, q⟩, fun x H3 y => ?_⟩
      obtain ⟨ps, hx⟩ := hy x H3 y
      have B : Same (hid O1 H1) (hid O' H3) := s2.trans ps.same
      refine hs i ds[i] Γ' O' (List.getElem?_eq_getElem hlt) hI x σ' H3 (w2.step ps) (sl2.mono ps.same) hx _ fun σ4 H4 Γ4 O4 hb s4 w4 sl4 => ?_
      refine hb σ4 H4 _ w4 sl4 ⟨fun σ5 H5 Γ5 O5 p s5 w5 sl5 => ⟨Γ5, O5, p, (B.trans s4).trans s5, w5, sl5⟩, fun v H5 s O5 p s5 w5 v5 => e.rt v H5 s O5 p (((s1.trans B).trans s4).trans s5) w5 v5,
        fun σ5 H5 Γ5 O5 p s5 w5 sl5 => e.nx σ5 H5 Γ5 O5 p (((s1.trans B).trans s4).trans s5) w5 sl5, fun σ5 H5 Γ5 O5 p s5 w5 sl5 => ⟨Γ5, O5, p, (B.trans s4).trans s5, w5, sl5⟩⟩
    · have ei : i = ds.length := by omega
      subst ei
      exact .inl ⟨h1 (Nat.le_refl _) (Nat.le_refl _), e.nx σ' H' Γ' O' (hd Γ' O' hI) (s1.trans s2) w2 sl2⟩
theorem wS_while (I : Nat → GG → OO → Prop) (h0 : ∃ m, I m Γ O) (h : ∀ m Γ' O', I m Γ' O' → wT K tt Γ' O' fun b O2 => (b = true → wS K ts Γ' O2 { A with nx := fun Γ3 O3 => ∃ m', m' < m ∧ I m' Γ3 O3, ct := fun Γ3 O3 => ∃ m', m' < m ∧ I m' Γ3 O3, bk := A.nx }) ∧ (b = false → A.nx Γ' O2)) :
    wS K (tWhile tt ts) Γ O A := fun σ H D w sl e => by
  obtain ⟨m0, hm0⟩ := h0
  refine ⟨fun m σ' H' => ∃ Γ' O', I m Γ' O' ∧ Same (hid O H) (hid O' H') ∧ OwnOk K H' O' ∧ SlOk K (hid O' H') σ' Γ', ⟨m0, Γ, O, hm0, Same.refl _, w, sl⟩, ?_⟩
  rintro m σ' H' ⟨Γ', O', hI, s1, w1, sl1⟩
  refine h m Γ' O' hI σ' H' w1 sl1 _ fun b H2 O2 ⟨h1, h2⟩ s2 w2 => ?_
  cases b with
  | true =>
    refine ⟨fun σ3 H3 => ∃ m', m' < m ∧ ∃ Γ3 O3, I m' Γ3 O3 ∧ Same (hid O H) (hid O3 H3) ∧ OwnOk K H3 O3 ∧ SlOk K (hid O3 H3) σ3 Γ3, fun σ3 H3 ⟨m', hm, q⟩ => ⟨m', hm, q⟩, ?_⟩
    refine h1 rfl σ' H2 _ w2 (sl1.mono s2) ⟨fun σ5 H5 Γ5 O5 ⟨m', hm, p⟩ s5 w5 sl5 => ⟨m', hm, Γ5, O5, p, (s1.trans s2).trans s5, w5, sl5⟩, fun v H5 s O5 p s5 w5 v5 => e.rt v H5 s O5 p ((s1.trans s2).trans s5) w5 v5,
      fun σ5 H5 Γ5 O5 p s5 w5 sl5 => e.nx σ5 H5 Γ5 O5 p ((s1.trans s2).trans s5) w5 sl5, fun σ5 H5 Γ5 O5 ⟨m', hm, p⟩ s5 w5 sl5 => ⟨m', hm, Γ5, O5, p, (s1.trans s2).trans s5, w5, sl5⟩⟩
  | false =>
    show D.nx σ' H2
    exact e.nx σ' H2 Γ' O2 (h2 rfl) (s1.trans s2) w2 (sl1.mono s2)
end
end Y

namespace Y
open PySem L2
variable {K : PySem.W.Frag}
section
variable {Γ : GG} {O : OO} {te ta tb tc : TE} {tt tu : TT} {P : Sl → OO → Prop} {PB : Bool → OO → Prop} {PI' : List D → (OO → Prop) → OO → Prop}

/-! ### what is walked -/
theorem wI.imp {wi : TI} {P' : List D → (OO → Prop) → OO → Prop} (h : wI K wi Γ O PI') (f : ∀ a b c, PI' a b c → P' a b c) : wI K wi Γ O P' := fun σ H w sl R r => h σ H w sl R fun J H' ds C O' p => r J H' ds C O' (f _ _ _ p)
theorem it_list {v : V} {s : Sl} {ds : List D} {G0 : Hp} {a : Addr} (hv : VOk K G0 v s) (ev : v = .ref a) : ItOk K (Itl K a) ds (fun O => SeqL O s ds) G0 := fun i H O hq w sm => by
  obtain ⟨b, xs, e, h1, h2⟩ := hq.read w (hv.mono sm)
  rw [ev] at e
  cases e
  refine ⟨fun hi _ => ⟨xs, SqL.of h1, by rw [h2.len]; exact hi⟩, fun d hd => ?_⟩
  obtain ⟨x, hx, hden⟩ := h2.get hd
  refine ⟨⟨xs, x, SqL.of h1, hx⟩, fun y H' ⟨e1, e2⟩ => ?_⟩
  subst e1
  have e3 := e2 xs (SqL.of h1)
  rw [hx] at e3
  cases e3
  exact ⟨.refl _ _, hden⟩
theorem it_tup {v : V} {x : D} {ds : List D} {G0 : Hp} {a : Addr} (q : TupD x ds) (hv : Den K G0 v x) (ev : v = .ref a) : ItOk K (Itt K a) ds (fun _ => True) G0 := fun i H O hq w sm => by
  obtain ⟨b, xs, e, h0, h2⟩ := q.read (hv.mono sm)
  rw [ev] at e
  cases e
  have h1 : SqT K H a xs := seqT hid_same h0
  refine ⟨fun hi _ => ⟨xs, h1, by rw [h2.len]; exact hi⟩, fun d hd => ?_⟩
  obtain ⟨x, hx, hden⟩ := h2.get hd
  refine ⟨⟨xs, x, h1, hx⟩, fun y H' ⟨e1, e2⟩ => ?_⟩
  subst e1
  have e3 := e2 xs h1
  rw [hx] at e3
  cases e3
  exact ⟨.refl _ _, hden⟩
theorem wI_list {tl : TE} (h : wE K tl Γ O fun s O1 => ∃ ds, SeqL O1 s ds ∧ PI' ds (fun O => SeqL O s ds) O1) : wI K (iList K tl) Γ O PI' := fun σ H w sl R r =>
  h σ H w sl _ fun v H1 s O1 ⟨ds, hq, p⟩ s1 w1 v1 => by
    obtain ⟨a, xs, ev, h1, h2⟩ := hq.read w1 v1
    exact ⟨a, ev, ⟨xs, SqL.of h1⟩, r _ H1 ds _ O1 p s1 w1 (it_list v1 ev)⟩
/-- a list or a tuple -/
def iSeqY (K : PySem.W.Frag) (tl : TE) : TI := fun σ H R => tl σ H fun x H1 => ∃ a, x = .ref a ∧ (((∃ xs, SqL K H1 a xs) ∧ R (Itl K a) H1) ∨ ((∃ xs, SqT K H1 a xs) ∧ R (Itt K a) H1))
theorem wI_seq {tl : TE} (h : wE K tl Γ O fun s O1 => ∃ ds, Seq O1 s ds ∧ PI' ds (fun O => Seq O s ds) O1) : wI K (iSeqY K tl) Γ O PI' := fun σ H w sl R r =>
  h σ H w sl _ fun v H1 s O1 ⟨ds, hq, p⟩ s1 w1 v1 => by
    cases hq with
    | lst =>
      obtain ⟨a, xs, ev, h1, h2⟩ := (SeqL.lst (O := O1) ds).read w1 v1
      exact ⟨a, ev, .inl ⟨⟨xs, SqL.of h1⟩, r _ H1 ds _ O1 p s1 w1 fun i H O hq w sm => it_list v1 ev i H O (.lst ds) w sm⟩⟩
    | own hl =>
      obtain ⟨a, xs, ev, h1, h2⟩ := (SeqL.own hl).read w1 v1
      refine ⟨a, ev, .inl ⟨⟨xs, SqL.of h1⟩, r _ H1 ds _ O1 p s1 w1 fun i H O hq w sm => it_list v1 ev i H O ?_ w sm⟩⟩
      cases hq with
      | own hl' => exact .own hl'
    | tup =>
      obtain ⟨a, xs, ev, h1, h2⟩ := (TupD.tup ds).read v1
      exact ⟨a, ev, .inr ⟨⟨xs, seqT hid_same h1⟩, r _ H1 ds _ O1 p s1 w1 fun i H O hq w sm => it_tup (.tup ds) v1 ev i H O trivial w sm⟩⟩
    | rt =>
      obtain ⟨a, xs, ev, h1, h2⟩ := (TupD.rt ds).read v1
      exact ⟨a, ev, .inr ⟨⟨xs, seqT hid_same h1⟩, r _ H1 ds _ O1 p s1 w1 fun i H O hq w sm => it_tup (.rt ds) v1 ev i H O trivial w sm⟩⟩
def rngD (lo : Int) (n : Nat) : List D := (List.range n).map fun (i : Nat) => D.int (lo + (i : Int))
theorem rngD_get {lo : Int} {n i : Nat} {d : D} (h : (rngD lo n)[i]? = some d) : i < n ∧ d = .int (lo + (i : Int)) := by
  unfold rngD at h
  rw [List.getElem?_map] at h
  by_cases hi : i < n
  · rw [List.getElem?_range hi] at h; cases h; exact ⟨hi, rfl⟩
  · rw [List.getElem?_eq_none (by simpa using hi)] at h; cases h
theorem rngD_len (lo : Int) (n : Nat) : (rngD lo n).length = n := by simp [rngD]
theorem it_rng {lo : Int} {n : Nat} {G0 : Hp} : ItOk K (Itr lo n) (rngD lo n) (fun _ => True) G0 := fun i H O _ w sm => by
  refine ⟨fun hi _ => by rw [rngD_len] at hi; exact hi, fun d hd => ?_⟩
  obtain ⟨hi, rfl⟩ := rngD_get hd
  exact ⟨hi, fun x H' ⟨e1, e2⟩ => by subst e1 e2; exact ⟨.refl _ _, .int _⟩⟩
theorem wI_rng1 {t : TA} (h : wA K t Γ O fun ss O1 => ∃ n : Int, ss = [.d (.int n)] ∧ -(2 ^ 62) ≤ n ∧ n < 2 ^ 62 ∧ PI' (rngD 0 n.toNat) (fun _ => True) O1) : wI K (iRng1 t) Γ O PI' := fun σ H w sl R r =>
  h σ H w sl _ fun vs H1 ss O1 ⟨n, e, h1, h2, p⟩ s1 w1 v1 => by
    subst e
    obtain ⟨u, q, rfl, h3, h4⟩ := v1.uncons
    obtain rfl := h4.nil_of
    cases h3
    exact ⟨n, rfl, h1, h2, r _ H1 _ _ O1 p s1 w1 it_rng⟩
def keysD (kvs : List (Str × D)) : List D := kvs.map fun p => D.str p.1
def valsD (kvs : List (Str × D)) : List D := kvs.map (·.2)
def itemsD (kvs : List (Str × D)) : List D := kvs.map fun p => D.tup [D.str p.1, p.2]
theorem DenK.get {G : Hp} {ps : List (Key × V)} {kvs : List (Str × D)} (h : DenK K G ps kvs) {i : Nat} {k : Str} {d : D} (e : kvs[i]? = some (k, d)) : ∃ v, ps[i]? = some (.inr k, v) ∧ Den K G v d := by
  have hi : i < kvs.length := (List.getElem?_eq_some_iff.mp e).1
  have hx : i < ps.length := by rw [h.len]; exact hi
  have hk : (ps.map (·.1))[i]? = some (Sum.inr k : Key) := by rw [h.keys, List.getElem?_map, e]; rfl
  rw [List.getElem?_map, List.getElem?_eq_getElem hx] at hk
  have hk' : ps[i].1 = Sum.inr k := Option.some.inj hk
  refine ⟨ps[i].2, ?_, h.at' i ps[i] (k, d) (List.getElem?_eq_getElem hx) e⟩
  rw [List.getElem?_eq_getElem hx, ← hk']
/-- a locked dict stays what it is -/
theorem dct_stay {v : V} {kvs : List (Str × D)} {G0 : Hp} (hv : Den K G0 v (.dct kvs)) : ∃ a o ps, v = .ref a ∧ ∀ (H : Hp) (O : OO), Same G0 (hid O H) → H a = some (.frz o (.dK ps)) ∧ DenK K (hid O H) ps kvs := by
  cases hv with
  | dct h hk hd =>
    rename_i a o ps
    exact ⟨a, o, ps, rfl, fun H O sm => ⟨(hid_some (sm _ _ h)).1, DenK.mono sm ⟨hk, hd⟩⟩⟩
theorem wI_keys {td : TE} (h : wE K td Γ O fun s O1 => ∃ kvs, s = .d (.dct kvs) ∧ PI' (keysD kvs) (fun _ => True) O1) : wI K (iKeys td) Γ O PI' := fun σ H w sl R r =>
  h σ H w sl _ fun v H1 s O1 ⟨kvs, e, p⟩ s1 w1 v1 => by
    subst e
    obtain ⟨a, o, ps, rfl, f⟩ := dct_stay v1
    obtain ⟨g1, g2⟩ := f H1 O1 (Same.refl _)
    refine ⟨a, o, rfl, .inl ⟨ps, g1, r _ H1 _ _ O1 p s1 w1 fun i H O _ w sm => ?_⟩⟩
    obtain ⟨f1, f2⟩ := f H O sm
    refine ⟨fun hi _ => ⟨f1, by rw [f2.len]; simpa [keysD] using hi⟩, fun d hd => ?_⟩
    unfold keysD at hd
    rw [List.getElem?_map] at hd
    cases e : kvs[i]? with
    | none => rw [e] at hd; cases hd
    | some q =>
      obtain ⟨k, dv⟩ := q
      rw [e] at hd
      cases hd
      obtain ⟨u, hu, _⟩ := f2.get e
      refine ⟨⟨f1, (List.getElem?_eq_some_iff.mp hu).1⟩, fun x H' ⟨e1, k', v', e2, e3⟩ => ?_⟩
      subst e1 e3
      rw [hu] at e2
      cases e2
      exact ⟨.refl _ _, .str k⟩
theorem wI_vals {td : TE} (h : wE K td Γ O fun s O1 => ∃ kvs, s = .d (.dct kvs) ∧ PI' (valsD kvs) (fun _ => True) O1) : wI K (iVals td) Γ O PI' := fun σ H w sl R r =>
  h σ H w sl _ fun v H1 s O1 ⟨kvs, e, p⟩ s1 w1 v1 => by
    subst e
    obtain ⟨a, o, ps, rfl, f⟩ := dct_stay v1
    obtain ⟨g1, g2⟩ := f H1 O1 (Same.refl _)
    refine ⟨a, o, ps, rfl, g1, r _ H1 _ _ O1 p s1 w1 fun i H O _ w sm => ?_⟩
    obtain ⟨f1, f2⟩ := f H O sm
    refine ⟨fun hi _ => ⟨f1, by rw [f2.len]; simpa [valsD] using hi⟩, fun d hd => ?_⟩
    unfold valsD at hd
    rw [List.getElem?_map] at hd
    cases e : kvs[i]? with
    | none => rw [e] at hd; cases hd
    | some q =>
      obtain ⟨k, dv⟩ := q
      rw [e] at hd
      cases hd
      obtain ⟨u, hu, hden⟩ := f2.get e
      refine ⟨⟨f1, (List.getElem?_eq_some_iff.mp hu).1⟩, fun x H' ⟨e1, k', e2⟩ => ?_⟩
      subst e1
      rw [hu] at e2
      cases e2
      exact ⟨.refl _ _, hden⟩
theorem Den.pair {G : Hp} {T : Addr} {x y : V} {a b : D} (h : G T = some (.tup [x, y])) (h1 : Den K G x a) (h2 : Den K G y b) : Den K G (.ref T) (.tup [a, b]) := by
  have d : Dens K G [x, y] [a, b] := .cons h1 (.cons h2 .nil)
  exact .tup (SqT.of h) d.len d.at'
theorem pair_step {H H' : Hp} {O : OO} (w : OwnOk K H O) {T : Addr} {x y : V} {a b : D} (hT : H T = none) (e : H' = upd H T (.tup [x, y])) (h1 : Den K (hid O H) x a) (h2 : Den K (hid O H) y b) : PStep O H H' ∧ Den K (hid O H') (.ref T) (.tup [a, b]) := by
  subst e
  have st := w.alloc (o := .tup [x, y]) hT
  exact ⟨st, .pair (hid_of upd_same (w.fresh hT)) (h1.mono st.same) (h2.mono st.same)⟩
theorem wI_items {td : TE} (h : wE K td Γ O fun s O1 => ∃ kvs, s = .d (.dct kvs) ∧ PI' (itemsD kvs) (fun _ => True) O1) : wI K (iItems td) Γ O PI' := fun σ H w sl R r =>
  h σ H w sl _ fun v H1 s O1 ⟨kvs, e, p⟩ s1 w1 v1 => by
    subst e
    obtain ⟨a, o, ps, rfl, f⟩ := dct_stay v1
    obtain ⟨g1, g2⟩ := f H1 O1 (Same.refl _)
    refine ⟨a, o, ps, rfl, g1, r _ H1 _ _ O1 p s1 w1 fun i H O _ w sm => ?_⟩
    obtain ⟨f1, f2⟩ := f H O sm
    refine ⟨fun hi _ => ⟨f1, by rw [f2.len]; simpa [itemsD] using hi⟩, fun d hd => ?_⟩
    unfold itemsD at hd
    rw [List.getElem?_map] at hd
    cases e : kvs[i]? with
    | none => rw [e] at hd; cases hd
    | some q =>
      obtain ⟨k, dv⟩ := q
      rw [e] at hd
      cases hd
      obtain ⟨u, hu, hden⟩ := f2.get e
      refine ⟨⟨f1, (List.getElem?_eq_some_iff.mp hu).1⟩, fun x H' ⟨T, k', v', e2, e3, e4, e5⟩ => ?_⟩
      rw [hu] at e2
      cases e2
      subst e3
      exact pair_step w e4 e5 (.str k) hden
/-- the signs of a text -/
def signsD (z : Str) : List D := z.cps.toList.map fun c => D.str ⟨#[c]⟩
theorem wI_str {tx : TE} (h : wE K tx Γ O fun s O1 => ∃ z, s = .d (.str z) ∧ PI' (signsD z) (fun _ => True) O1) : wI K (iStr tx) Γ O PI' := fun σ H w sl R r =>
  h σ H w sl _ fun v H1 s O1 ⟨z, e, p⟩ s1 w1 v1 => by
    subst e
    cases v1
    refine ⟨z, rfl, r _ H1 _ _ O1 p s1 w1 fun i H O _ w sm => ?_⟩
    refine ⟨fun hi _ => by show z.cps.size ≤ i; simpa [signsD] using hi, fun d hd => ?_⟩
    unfold signsD at hd
    rw [List.getElem?_map] at hd
    cases e : z.cps.toList[i]? with
    | none => rw [e] at hd; cases hd
    | some c =>
      rw [e] at hd
      cases hd
      have e' : z.cps[i]? = some c := by rw [← Array.getElem?_toList]; exact e
      refine ⟨by show i < z.cps.size; have := (List.getElem?_eq_some_iff.mp e).1; simpa using this, fun x H' ⟨e1, c', e2, e3⟩ => ?_⟩
      subst e1 e3
      rw [e'] at e2
      cases e2
      exact ⟨.refl _ _, .str _⟩

/-! ### comprehensions -/
theorem wipe_set {σ : L2.St} {v : Option V} {j : Nat} : ∀ {vs : List Nat}, j ∈ vs → wipe (σ.set j v) vs = wipe σ vs
  | [], h => by simp at h
  | i :: vs, h => by
    show (wipe (σ.set j v) vs).set i none = (wipe σ vs).set i none
    by_cases hj : j ∈ vs
    · rw [wipe_set hj]
    · have e : j = i := by simpa [hj] using h
      subst e
      have step : ∀ (ws : List Nat) (τ : L2.St), j ∉ ws → wipe (τ.set j v) ws = (wipe τ ws).set j v := by
        intro ws
        induction ws with
        | nil => intro τ _; rfl
        | cons k ws ih =>
          intro τ hk
          have h1 : j ≠ k := fun z => hk (by simp [z])
          have h2 : j ∉ ws := fun z => hk (by simp [z])
          show (wipe (τ.set j v) ws).set k none = ((wipe τ ws).set k none).set j v
          rw [ih τ h2, List.set_comm _ _ h1]
      rw [step vs σ hj, List.set_set]
theorem wipe_get {σ : L2.St} : ∀ {vs : List Nat} {j : Nat}, (wipe σ vs)[j]? = if j ∈ vs then (σ[j]?.map fun _ => none) else σ[j]?
  | [], j => by simp [wipe]
  | i :: vs, j => by
    show ((wipe σ vs).set i none)[j]? = _
    rw [List.getElem?_set, wipe_length]
    by_cases e : i = j
    · subst e
      simp only [if_true, List.mem_cons, true_or]
      by_cases hl : i < σ.length
      · rw [if_pos hl, List.getElem?_eq_getElem hl]; rfl
      · rw [if_neg hl, List.getElem?_eq_none (by simpa using hl)]; rfl
    · rw [if_neg e, wipe_get]
      have e' : ¬ j = i := fun z => e z.symm
      by_cases hj : j ∈ vs
      · simp [hj]
      · simp [hj, e']
theorem wipe_wipe (σ : L2.St) (vs : List Nat) : wipe (wipe σ vs) vs = wipe σ vs := by
  apply List.ext_getElem?
  intro j
  rw [wipe_get]
  by_cases hj : j ∈ vs
  · rw [if_pos hj, wipe_get, if_pos hj]
    cases σ[j]? <;> rfl
  · rw [if_neg hj]
/-- a target that stores the block's own names alone -/
def TgK (g : TG) (vs : List Nat) : Prop := ∀ v σ H (Q : L2.St → Hp → Prop), g v σ H Q → g v σ H fun σ2 H2 => wipe σ2 vs = wipe σ vs ∧ Q σ2 H2
def TgKs (g : TGs) (vs : List Nat) : Prop := ∀ v σ H (Q : L2.St → Hp → Prop), g v σ H Q → g v σ H fun σ2 H2 => wipe σ2 vs = wipe σ vs ∧ Q σ2 H2
theorem tgk_name {i : Nat} {vs : List Nat} (h : i ∈ vs) : TgK (gName i) vs := fun v σ H Q q => ⟨wipe_set h, q⟩
theorem tgk_nil {vs : List Nat} : TgKs gNil vs := fun v σ H Q ⟨e, q⟩ => ⟨e, rfl, q⟩
theorem tgk_consN {i : Nat} {u : TGs} {vs : List Nat} (h1 : i ∈ vs) (h2 : TgKs u vs) : TgKs (gCons (gName i) u) vs := fun v σ H Q ⟨x, r, e, q⟩ => ⟨x, r, e, by
  have := h2 r (σ.set i (some x)) H Q q
  rw [wipe_set h1] at this
  exact this⟩
theorem tgk_tup {n : Nat} {t : TGs} {vs : List Nat} (h : TgKs t vs) : TgK (gTup K n t) vs := fun v σ H Q ⟨a, xs, e1, e2, e3, q⟩ => ⟨a, xs, e1, e2, e3, h xs σ H Q q⟩
theorem wT_yes (p : PB true O) : wT K tYes Γ O PB := fun σ H w sl Q q => q true H O p (Same.refl _) w

theorem wE_lc {wi : TI} {g : TG} {vs : List Nat} (tg : TgK g vs) (h : wI K wi Γ O fun ds C O1 => ∃ I : Nat → List D → OO → Prop, I 0 [] O1 ∧ (∀ i acc O' a, I i acc O' → C ((99, a, .ol acc) :: O') ∧ acc.length < 100000) ∧
    (∀ i d acc O' a, ds[i]? = some d → I i acc O' → wG K g (.d d) (wipeG Γ vs) ((99, a, .ol acc) :: O') fun Γ2 O2 => wT K tt Γ2 O2 fun b O3 =>
      (b = true → wE K te Γ2 O3 fun y O4 => ∃ e O5, y = .d e ∧ O4 = (99, a, .ol acc) :: O5 ∧ I (i + 1) (acc ++ [e]) O5) ∧ (b = false → ∃ O5, O3 = (99, a, .ol acc) :: O5 ∧ I (i + 1) acc O5)) ∧
    ∀ acc O', I ds.length acc O' → P (.d (.lst acc)) O') : wE K (tLc wi g tt te vs) Γ O P := fun σ H w sl Q q =>
  h σ H w sl _ fun J H1 ds C O1 ⟨I, h0, hC, hs, hd⟩ s1 w1 it a ha => by
    have w0 := w1.newL 99 ha (Dens.nil (K := K))
    have s0 : Same (hid O1 H1) (hid ((99, a, OD.ol []) :: O1) (upd H1 a (.lst []))) := hid_cons_new rfl ha
    refine ⟨fun i m H' => m = ds.length - i ∧ i ≤ ds.length ∧ ∃ acc O', I i acc O' ∧ Same (hid O1 H1) (hid ((99, a, OD.ol acc) :: O') H') ∧ OwnOk K H' ((99, a, .ol acc) :: O'), ⟨_, rfl, Nat.zero_le _, [], O1, h0, s0, w0⟩, ?_⟩
    rintro i m H' ⟨rfl, hi, acc, O', hI, s2, w2⟩
    obtain ⟨h1, h2⟩ := it i H' _ (hC i acc O' a hI).1 w2 s2
    by_cases hlt : i < ds.length
    · obtain ⟨hg, hy⟩ := h2 ds[i] (List.getElem?_eq_getElem hlt)
      refine .inr ⟨hg, fun H3 => ∃ acc3 O3, I (i + 1) acc3 O3 ∧ Same (hid O1 H1) (hid ((99, a, OD.ol acc3) :: O3) H3) ∧ OwnOk K H3 ((99, a, .ol acc3) :: O3), fun H3 q => ⟨_, by omega, rfl, hlt, q⟩, fun x H3 y => ?_⟩
      obtain ⟨ps, hx⟩ := hy x H3 y
      have B : Same (hid O1 H1) (hid ((99, a, OD.ol acc) :: O') H3) := s2.trans ps.same
      have w3 := w2.step ps
      have sl3 : SlOk K (hid ((99, a, OD.ol acc) :: O') H3) (wipe σ vs) (wipeG Γ vs) := ((sl.mono s1).mono B).wipe vs
      have := hs i ds[i] acc O' a (List.getElem?_eq_getElem hlt) hI x (wipe σ vs) H3 w3 sl3 hx
      have := tg x (wipe σ vs) H3 _ (this (fun σ2 H2 => tt σ2 H2 fun b H3 => if b = true then te σ2 H3 fun y H4 => ∃ acc, H4 a = some (.lst acc) ∧ acc.length < sizeLine ∧ (fun H3 => ∃ acc3 O3, I (i + 1) acc3 O3 ∧ Same (hid O1 H1) (hid ((99, a, OD.ol acc3) :: O3) H3) ∧ OwnOk K H3 ((99, a, .ol acc3) :: O3)) (upd H4 a (.lst (acc ++ [y])))
        else (fun H3 => ∃ acc3 O3, I (i + 1) acc3 O3 ∧ Same (hid O1 H1) (hid ((99, a, OD.ol acc3) :: O3) H3) ∧ OwnOk K H3 ((99, a, .ol acc3) :: O3)) H3) fun σ4 H4 Γ4 O4 ht s4 w4 sl4 => ?_)
      · rw [wipe_wipe] at this
        exact this
      · refine ht σ4 H4 w4 sl4 _ fun b H5 O5 ⟨k1, k2⟩ s5 w5 => ?_
        cases b with
        | false =>
          obtain ⟨O6, e6, hI6⟩ := k2 rfl
          subst e6
          exact ⟨acc, O6, hI6, (B.trans s4).trans s5, w5⟩
        | true =>
          refine k1 rfl σ4 H5 w5 (sl4.mono s5) _ fun z H6 sz O6 ⟨e, O7, e1, e2, hI7⟩ s6 w6 z6 => ?_
          subst e1 e2
          obtain ⟨xs, x1, x2⟩ := w6.at' (l := 99) (a := a) (o := .ol acc) rfl
          obtain ⟨w8, s8⟩ := w6.write (H' := upd H6 a (.lst (xs ++ [z]))) (l := 99) (a := a) (o := .ol acc) (q := .ol (acc ++ [e])) rfl rfl (fun b hb => upd_ne (by simpa [oad] using hb)) ⟨_, upd_same, x2.append (.cons z6 .nil)⟩
          refine ⟨xs, x1, by rw [x2.len]; exact Nat.lt_of_lt_of_le (hC i acc O' a hI).2 (by decide), acc ++ [e], O7, hI7, ?_, w8⟩
          exact (((B.trans s4).trans s5).trans s6).trans s8
    · have ei : i = ds.length := by omega
      subst ei
      refine .inl ⟨h1 (Nat.le_refl _) (Nat.le_refl _), ?_⟩
      exact q _ H' _ O' (hd acc O' hI) (s1.trans (s2.trans hid_drop)) w2.drop w2.denL
/-- .. whose parts change nothing: f tells what comes of each item -/
theorem wE_lcP {wi : TI} {g : TG} {vs : List Nat} (tg : TgK g vs) (h : wI K wi Γ O fun ds C O1 => ∃ f : D → Option D, (∀ acc a, C ((99, a, .ol acc) :: O1)) ∧ ds.length < 100000 ∧
    (∀ (i : Nat) (d : D) (acc : List D) (a : Addr), ds[i]? = some d → wG K g (.d d) (wipeG Γ vs) ((99, a, .ol acc) :: O1) fun Γ2 O2 => wT K tt Γ2 O2 fun b O3 =>
      (b = true → wE K te Γ2 O3 fun y O4 => O4 = (99, a, .ol acc) :: O1 ∧ ∃ e, y = .d e ∧ f d = some e) ∧ (b = false → O3 = (99, a, .ol acc) :: O1 ∧ f d = none)) ∧ P (.d (.lst (ds.filterMap f))) O1) : wE K (tLc wi g tt te vs) Γ O P := by
  refine wE_lc tg (h.imp fun ds C O1 ⟨f, hC, hz, hs, hp⟩ => ?_)
  refine ⟨fun i acc O' => O' = O1 ∧ acc = (ds.take i).filterMap f, ⟨rfl, by simp⟩, fun i acc O' a ⟨e1, e2⟩ => ?_, fun i d acc O' a hd ⟨e1, e2⟩ => ?_, fun acc O' ⟨e1, e2⟩ => ?_⟩
  · subst e1 e2
    refine ⟨hC _ _, ?_⟩
    have h1 : ((ds.take i).filterMap f).length ≤ (ds.take i).length := List.length_filterMap_le _ _
    have h2 : (ds.take i).length ≤ ds.length := by rw [List.length_take]; omega
    omega
  · subst e1
    have tk : ds.take (i + 1) = ds.take i ++ [d] := by
      rw [List.take_add_one, hd]; rfl
    have := hs i d acc a hd
    refine fun v σ H w sl hv Q q => this v σ H w sl hv Q fun σ' H' Γ' O'' p => q σ' H' Γ' O'' ?_
    refine p.imp fun b O3 ⟨p1, p2⟩ => ⟨fun hb => (p1 hb).imp fun y O4 ⟨e3, e, e4, e5⟩ => ⟨e, O', e4, e3, rfl, ?_⟩, fun hb => ?_⟩
    · rw [tk, List.filterMap_append, e2]
      simp [e5]
    · obtain ⟨e3, e4⟩ := p2 hb
      exact ⟨O', e3, rfl, by rw [tk, List.filterMap_append, e2]; simp [e4]⟩
  · subst e1 e2
    rw [List.take_length]
    exact hp
/-- a dict of one's own, by a comprehension -/
theorem wE_dc {wi : TI} {g : TG} {tk tv : TE} {vs : List Nat} (tg : TgK g vs) (h : wI K wi Γ O fun ds C O1 => ∃ I : Nat → List (Str × D) → OO → Prop, I 0 [] O1 ∧ (∀ i acc O' a, I i acc O' → C ((99, a, .ok acc) :: O') ∧ acc.length < 100000) ∧
    (∀ i d acc O' a, ds[i]? = some d → I i acc O' → wG K g (.d d) (wipeG Γ vs) ((99, a, .ok acc) :: O') fun Γ2 O2 => wT K tt Γ2 O2 fun b O3 =>
      (b = true → wE K tk Γ2 O3 fun y O4 => wE K tv Γ2 O4 fun z O5 => ∃ k e O6, y = .d (.str k) ∧ z = .d e ∧ O5 = (99, a, .ok acc) :: O6 ∧ I (i + 1) (putD acc k e) O6) ∧ (b = false → ∃ O5, O3 = (99, a, .ok acc) :: O5 ∧ I (i + 1) acc O5)) ∧
    ∀ acc O' a, I ds.length acc O' → P (.p 99 a) ((99, a, .ok acc) :: O')) : wE K (tDc wi g tt tk tv vs) Γ O P := fun σ H w sl Q q =>
  h σ H w sl _ fun J H1 ds C O1 ⟨I, h0, hC, hs, hd⟩ s1 w1 it a ha => by
    have w0 := w1.newK 99 ha (DenK.nil (K := K))
    have s0 : Same (hid O1 H1) (hid ((99, a, OD.ok []) :: O1) (upd H1 a (.dK []))) := hid_cons_new rfl ha
    refine ⟨fun i m H' => m = ds.length - i ∧ i ≤ ds.length ∧ ∃ acc O', I i acc O' ∧ Same (hid O1 H1) (hid ((99, a, OD.ok acc) :: O') H') ∧ OwnOk K H' ((99, a, .ok acc) :: O'), ⟨_, rfl, Nat.zero_le _, [], O1, h0, s0, w0⟩, ?_⟩
    rintro i m H' ⟨rfl, hi, acc, O', hI, s2, w2⟩
    obtain ⟨h1, h2⟩ := it i H' _ (hC i acc O' a hI).1 w2 s2
    by_cases hlt : i < ds.length
    · obtain ⟨hg, hy⟩ := h2 ds[i] (List.getElem?_eq_getElem hlt)
      refine .inr ⟨hg, fun H3 => ∃ acc3 O3, I (i + 1) acc3 O3 ∧ Same (hid O1 H1) (hid ((99, a, OD.ok acc3) :: O3) H3) ∧ OwnOk K H3 ((99, a, .ok acc3) :: O3), fun H3 q => ⟨_, by omega, rfl, hlt, q⟩, fun x H3 y => ?_⟩
      obtain ⟨ps, hx⟩ := hy x H3 y
      have B : Same (hid O1 H1) (hid ((99, a, OD.ok acc) :: O') H3) := s2.trans ps.same
      have w3 := w2.step ps
      have sl3 : SlOk K (hid ((99, a, OD.ok acc) :: O') H3) (wipe σ vs) (wipeG Γ vs) := ((sl.mono s1).mono B).wipe vs
      have := hs i ds[i] acc O' a (List.getElem?_eq_getElem hlt) hI x (wipe σ vs) H3 w3 sl3 hx
      have := tg x (wipe σ vs) H3 _ (this (fun σ2 H2 => tt σ2 H2 fun b H3 => if b = true then tk σ2 H3 fun y H4 => tv σ2 H4 fun z H5 => ∃ kvs k, y = kV k ∧ H5 a = some (.dK kvs) ∧ kvs.length < sizeLine ∧ (fun H3 => ∃ acc3 O3, I (i + 1) acc3 O3 ∧ Same (hid O1 H1) (hid ((99, a, OD.ok acc3) :: O3) H3) ∧ OwnOk K H3 ((99, a, .ok acc3) :: O3)) (upd H5 a (.dK (putK kvs k z)))
        else (fun H3 => ∃ acc3 O3, I (i + 1) acc3 O3 ∧ Same (hid O1 H1) (hid ((99, a, OD.ok acc3) :: O3) H3) ∧ OwnOk K H3 ((99, a, .ok acc3) :: O3)) H3) fun σ4 H4 Γ4 O4 ht s4 w4 sl4 => ?_)
      · rw [wipe_wipe] at this
        exact this
      · refine ht σ4 H4 w4 sl4 _ fun b H5 O5 ⟨k1, k2⟩ s5 w5 => ?_
        cases b with
        | false =>
          obtain ⟨O6, e6, hI6⟩ := k2 rfl
          subst e6
          exact ⟨acc, O6, hI6, (B.trans s4).trans s5, w5⟩
        | true =>
          refine k1 rfl σ4 H5 w5 (sl4.mono s5) _ fun yk H6 sy O6 hv6 s6 w6 y6 => ?_
          refine hv6 σ4 H6 w6 ((sl4.mono s5).mono s6) _ fun z H7 sz O7 ⟨k, e, O8, e1, e2, e3, hI8⟩ s7 w7 z7 => ?_
          subst e1 e2 e3
          cases y6
          obtain ⟨xs, x1, x2⟩ := w7.at' (l := 99) (a := a) (o := .ok acc) rfl
          obtain ⟨w8, s8⟩ := w7.write (H' := upd H7 a (.dK (putK xs (.inr k) z))) (l := 99) (a := a) (o := .ok acc) (q := .ok (putD acc k e)) rfl rfl (fun b hb => upd_ne (by simpa [oad] using hb)) ⟨_, upd_same, x2.put k z7⟩
          refine ⟨xs, .inr k, rfl, x1, by rw [x2.len]; exact Nat.lt_of_lt_of_le (hC i acc O' a hI).2 (by decide), putD acc k e, O8, hI8, ?_, w8⟩
          exact ((((B.trans s4).trans s5).trans s6).trans s7).trans s8
    · have ei : i = ds.length := by omega
      subst ei
      exact .inl ⟨h1 (Nat.le_refl _) (Nat.le_refl _), q _ H' _ _ (hd acc O' a hI) (s1.trans s2) w2 rfl⟩
def putAll : List (Str × D) → List (Str × D) → List (Str × D)
  | acc, [] => acc
  | acc, (k, d) :: r => putAll (putD acc k d) r
theorem putD_len (acc : List (Str × D)) (k : Str) (d : D) : (putD acc k d).length ≤ acc.length + 1 := by
  unfold putD
  split
  · rw [List.length_map]; omega
  · rw [List.length_append]; simp
theorem putAll_len : ∀ (l acc : List (Str × D)), (putAll acc l).length ≤ acc.length + l.length
  | [], acc => by simp [putAll]
  | (k, d) :: r, acc => by
    have h1 := putAll_len r (putD acc k d)
    have h2 := putD_len acc k d
    show (putAll (putD acc k d) r).length ≤ _
    simp; omega
theorem putAll_app : ∀ (l l' acc : List (Str × D)), putAll acc (l ++ l') = putAll (putAll acc l) l'
  | [], l', acc => rfl
  | (k, d) :: r, l', acc => putAll_app r l' (putD acc k d)
/-- .. whose parts change nothing -/
theorem wE_dcP {wi : TI} {g : TG} {tk tv : TE} {vs : List Nat} (tg : TgK g vs) (h : wI K wi Γ O fun ds C O1 => ∃ f : D → Option (Str × D), (∀ acc a, C ((99, a, .ok acc) :: O1)) ∧ ds.length < 100000 ∧
    (∀ (i : Nat) (d : D) (acc : List (Str × D)) (a : Addr), ds[i]? = some d → wG K g (.d d) (wipeG Γ vs) ((99, a, .ok acc) :: O1) fun Γ2 O2 => wT K tt Γ2 O2 fun b O3 =>
      (b = true → wE K tk Γ2 O3 fun y O4 => wE K tv Γ2 O4 fun z O5 => O5 = (99, a, .ok acc) :: O1 ∧ ∃ k e, y = .d (.str k) ∧ z = .d e ∧ f d = some (k, e)) ∧ (b = false → O3 = (99, a, .ok acc) :: O1 ∧ f d = none)) ∧ ∀ a, P (.p 99 a) ((99, a, .ok (putAll [] (ds.filterMap f))) :: O1)) : wE K (tDc wi g tt tk tv vs) Γ O P := by
  refine wE_dc tg (h.imp fun ds C O1 ⟨f, hC, hz, hs, hp⟩ => ?_)
  refine ⟨fun i acc O' => O' = O1 ∧ acc = putAll [] ((ds.take i).filterMap f), ⟨rfl, by simp [putAll]⟩, fun i acc O' a ⟨e1, e2⟩ => ?_, fun i d acc O' a hd ⟨e1, e2⟩ => ?_, fun acc O' a ⟨e1, e2⟩ => ?_⟩
  · subst e1 e2
    refine ⟨hC _ _, ?_⟩
    have h0 := putAll_len ((ds.take i).filterMap f) []
    have h1 : ((ds.take i).filterMap f).length ≤ (ds.take i).length := List.length_filterMap_le _ _
    have h2 : (ds.take i).length ≤ ds.length := by rw [List.length_take]; omega
    simp at h0
    omega
  · subst e1
    have tk : ds.take (i + 1) = ds.take i ++ [d] := by
      rw [List.take_add_one, hd]; rfl
    have := hs i d acc a hd
    refine fun v σ H w sl hv Q q => this v σ H w sl hv Q fun σ' H' Γ' O'' p => q σ' H' Γ' O'' ?_
    refine p.imp fun b O3 ⟨p1, p2⟩ => ⟨fun hb => (p1 hb).imp fun y O4 hy => hy.imp fun z O5 ⟨e3, k, e, e4, e5, e6⟩ => ⟨k, e, O', e4, e5, e3, rfl, ?_⟩, fun hb => ?_⟩
    · rw [tk, List.filterMap_append, e2, putAll_app]
      simp [e6, putAll]
    · obtain ⟨e3, e4⟩ := p2 hb
      exact ⟨O', e3, rfl, by rw [tk, List.filterMap_append, e2]; simp [e4]⟩
  · subst e1 e2
    rw [List.take_length]
    exact hp a
end
end Y

namespace Y
open PySem L2
variable {K : PySem.W.Frag}
/-- what a def is worth: from what is handed and owned to what is wanted -/
abbrev FF := List Sl → OO → (Sl → OO → Prop) → Prop
def spA (K : PySem.W.Frag) (n : Nat) (F : FF) : Sp := fun vs H Q _ => ∃ ss O P, ss.length = n ∧ OwnOk K H O ∧ SlsOk K (hid O H) vs ss ∧ F ss O P ∧
  ∀ v H' s O', P s O' → Same (hid O H) (hid O' H') → OwnOk K H' O' → VOk K (hid O' H') v s → Q v H'
theorem spA_len {n : Nat} {F : FF} {vs : List V} {H : Hp} {Q : VK} {E : XK} (h : spA K n F vs H Q E) : vs.length = n := by
  obtain ⟨ss, O, P, h1, _, h2, _⟩ := h
  exact h2.len.trans h1
def startG (m : Nat) (ss : List Sl) : GG := ss.map some ++ List.replicate (m - ss.length) none
theorem start_ok {G : Hp} {N : List Str} {vs : List V} {ss : List Sl} (h : SlsOk K G vs ss) : SlOk K G (L2.start N vs) (startG N.length ss) := by
  refine ⟨by simp [L2.start, startG, h.len], fun i s e => ?_⟩
  unfold startG at e
  unfold L2.start
  by_cases hi : i < ss.length
  · rw [List.getElem?_append_left (by simpa using hi), List.getElem?_map, List.getElem?_eq_getElem hi] at e
    have hv : i < vs.length := by rw [h.len]; exact hi
    refine ⟨vs[i], ?_, ?_⟩
    · rw [List.getElem?_append_left (by simpa using hv), List.getElem?_map, List.getElem?_eq_getElem hv]; rfl
    · have es : ss[i] = s := by simpa using e
      rw [← es]
      exact h.at' i _ _ (List.getElem?_eq_getElem hv) (List.getElem?_eq_getElem hi)
  · rw [List.getElem?_append_right (by simpa using Nat.le_of_not_lt hi), List.getElem?_replicate] at e
    split at e <;> cases e
theorem wS_body {n : Nat} {F : FF} {N : List Str} {vs : List V} {H : Hp} {Q : VK} {E : XK} {ts : TS} (h : spA K n F vs H Q E) (hb : ∀ ss O P, ss.length = n → F ss O P → wS K ts (startG N.length ss) O { nx := fun _ O' => P (.d .non) O', rt := P }) :
    ts { nx := fun _ H' => Q .non H', rt := Q } (L2.start N vs) H := by
  obtain ⟨ss, O, P, h1, w, h2, f, q⟩ := h
  refine hb ss O P h1 f (L2.start N vs) H _ w (start_ok h2) ⟨fun σ' H' Γ' O' p s w' _ => q .non H' _ O' p s w' .non, fun v H' s O' p sm w' hv => q v H' s O' p sm w' hv, fun _ _ _ _ p => p.elim, fun _ _ _ _ p => p.elim⟩
section
variable {Γ : GG} {O : OO} {te ta tb tc : TE} {tt tu : TT} {P : Sl → OO → Prop} {PB : Bool → OO → Prop}
theorem wE_call {n : Nat} {F : FF} {E : XK} {t : TA} (h : wA K t Γ O fun ss O1 => ss.length = n ∧ F ss O1 P) : wE K (tCall (spA K n F) [] E t) Γ O P := fun σ H w sl Q q =>
  h σ H w sl _ fun vs H1 ss O1 ⟨e, f⟩ s1 w1 v1 => by
    show spA K n F (vs ++ []) H1 Q E
    rw [List.append_nil]
    exact ⟨ss, O1, P, e, w1, v1, f, fun v H' s O' p s2 w2 v2 => q v H' s O' p (s1.trans s2) w2 v2⟩
theorem DenF.none {G : Hp} : ∀ {fs : List (Str × D)} {ps : List (Str × V)} {x : Str}, DenF K G ps fs → fs.lookup x = none → ps.lookup x = Option.none
  | [], ps, x, h, e => by obtain rfl := h.nil_of; rfl
  | (k, d0) :: fs, ps, x, h, e => by
    obtain ⟨v, r, rfl, hv, hr⟩ := h.uncons
    rw [List.lookup_cons] at e ⊢
    cases hx : (x == k) with
    | true => rw [hx] at e; cases e
    | false => rw [hx] at e; exact DenF.none hr e
theorem wE_meth {C : Addr} {m : Str} {n : Nat} {F : FF} {E : XK} {t : TA} (h : wE K ta Γ O fun s O1 => ∃ fs, Ins O1 s C fs ∧ fs.lookup m = none ∧ wA K t Γ O1 fun ss O2 => ss.length + 1 = n ∧ F (s :: ss) O2 P) : wE K (tMeth C m (spA K n F) [] E ta t) Γ O P := fun σ H w sl Q q =>
  h σ H w sl _ fun v H1 s O1 ⟨fs, hi, hm, hb⟩ s1 w1 v1 => by
    obtain ⟨a, dx, ps, rfl, h1, h2⟩ := hi.read w1 v1
    refine ⟨a, dx, ps, rfl, h1, h2.none hm, hb σ H1 w1 (sl.mono s1) _ fun vs H2 ss O2 ⟨e, f⟩ s2 w2 v2 => ?_⟩
    show spA K n F (V.ref a :: (vs ++ [])) H2 Q E
    rw [List.append_nil]
    exact ⟨s :: ss, O2, P, e, w2, .cons (v1.mono s2) v2, f, fun v H' s O' p s3 w3 v3 => q v H' s O' p ((s1.trans s2).trans s3) w3 v3⟩
theorem wE_make {C : Addr} {n : Nat} {F : FF} {E : XK} {t : TA} (h : wA K t Γ O fun ss O1 => ∀ x dx, ss.length + 1 = n ∧ F (.p 50 x :: ss) ((50, x, .oi C dx []) :: O1) fun s O2 => s = .d .non ∧ ∃ dx' fs, look O2 50 = some (x, .oi C dx' fs) ∧ P (.d (.obj C fs)) (dropO O2 50)) :
    wE K (tMake C (spA K n F) [] E t) Γ O P := fun σ H w sl Q q =>
  h σ H w sl _ fun vs H1 ss O1 hb s1 w1 v1 x dx hx hdx hne => by
    obtain ⟨e, f⟩ := hb x dx
    show spA K n F (V.ref x :: (vs ++ [])) _ _ E
    rw [List.append_nil]
    have st1 := w1.alloc (o := .own x) hdx
    have w2 := w1.step st1
    have hx' : (upd H1 dx (.own x)) x = none := by rw [upd_ne hne.symm]; exact hx
    have s2 : Same (hid O1 (upd H1 dx (.own x))) (hid ((50, x, OD.oi C dx []) :: O1) (upd (upd H1 dx (.own x)) x (.ins C dx []))) := hid_cons_new rfl hx'
    have st2 := w2.alloc (o := .ins C dx []) hx'
    have w3 : OwnOk K (upd (upd H1 dx (.own x)) x (.ins C dx [])) ((50, x, .oi C dx []) :: O1) := by
      refine (w2.step st2).own rfl (w2.fresh hx') (fun g => ⟨[], upd_same, .nil⟩) fun u hu => ?_
      exact (w2.ok u hu).mono s2 fun b hb => st2.own b (mem_odom (l := u.1) (a := u.2.1) (o := u.2.2) hu b hb)
    have B := st1.same.trans s2
    refine ⟨.p 50 x :: ss, _, _, e, w3, .cons rfl (v1.mono B), f, fun v H' s O' ⟨es, dx', fs, hl, p⟩ s4 w4 v4 => ?_⟩
    subst es
    refine ⟨by cases v4; rfl, ?_⟩
    obtain ⟨ps, p1, p2⟩ := w4.at' hl
    have d := p2.mono (hid_dropO (l := 50))
    exact q _ H' _ _ p (((s1.trans B).trans s4).trans hid_dropO) (w4.dropO 50) (.obj (hid_of p1 (dropO_out w4.nd hl x oad_self)) d.keys d.at')

/-! ### built-in calls -/
theorem sls1 {G : Hp} {vs : List V} {s : Sl} (h : SlsOk K G vs [s]) : ∃ v, vs = [v] ∧ VOk K G v s := by
  obtain ⟨v, r, rfl, h1, h2⟩ := h.uncons
  obtain rfl := h2.nil_of
  exact ⟨v, rfl, h1⟩
theorem sls2 {G : Hp} {vs : List V} {s t : Sl} (h : SlsOk K G vs [s, t]) : ∃ v u, vs = [v, u] ∧ VOk K G v s ∧ VOk K G u t := by
  obtain ⟨v, r, rfl, h1, h2⟩ := h.uncons
  obtain ⟨u, rfl, h3⟩ := sls1 h2
  exact ⟨v, u, rfl, h1, h3⟩
theorem a_len {s : Sl} {ds : List D} (q : Seq O s ds) (p : P (.d (.int ds.length)) O) : aRC K (fun xs H Q => ∃ p ys, xs = [.ref p] ∧ (SqL K H p ys ∨ SqT K H p ys) ∧ Q (.int ys.length) H) [s] O P := fun H vs w hv Q k => by
  obtain ⟨v, rfl, h1⟩ := sls1 hv
  obtain ⟨a, xs, rfl, h2, h3⟩ := q.read w h1
  refine ⟨a, xs, rfl, h2, ?_⟩
  rw [h3.len]
  exact k _ H _ O p (Same.refl _) w (.int _)
theorem a_lenS {z : Str} (hz : z.length ≤ sizeLine) (p : P (.d (.int z.length)) O) : aRC K (fun xs H Q => ∃ x, xs = [.str x] ∧ x.length ≤ sizeLine ∧ Q (.int x.length) H) [.d (.str z)] O P := fun H vs w hv Q k => by
  obtain ⟨v, rfl, h1⟩ := sls1 hv
  cases h1
  exact ⟨z, rfl, hz, k _ H _ O p (Same.refl _) w (.int _)⟩
/-- list(xs) as data; of one's own -/
theorem a_list {s : Sl} {ds : List D} (q : Seq O s ds) (p : P (.d (.lst ds)) O) : aRC K (fun xs H Q => ∃ p ys, xs = [.ref p] ∧ (SqL K H p ys ∨ SqT K H p ys) ∧ ∀ l, H l = none → Q (.ref l) (upd H l (.lst ys))) [s] O P := fun H vs w hv Q k => by
  obtain ⟨v, rfl, h1⟩ := sls1 hv
  obtain ⟨a, xs, rfl, h2, h3⟩ := q.read w h1
  refine ⟨a, xs, rfl, h2, fun l hl => ?_⟩
  have st := w.alloc (o := .lst xs) hl
  have d := h3.mono st.same
  exact k _ _ _ O p st.same (w.step st) (.lst (hid_of upd_same (w.fresh hl)) d.len d.at')
theorem a_listOwn (m : Nat) {s : Sl} {ds : List D} (q : Seq O s ds) (p : ∀ a, P (.p m a) ((m, a, .ol ds) :: O)) : aRC K (fun xs H Q => ∃ p ys, xs = [.ref p] ∧ (SqL K H p ys ∨ SqT K H p ys) ∧ ∀ l, H l = none → Q (.ref l) (upd H l (.lst ys))) [s] O P := fun H vs w hv Q k => by
  obtain ⟨v, rfl, h1⟩ := sls1 hv
  obtain ⟨a, xs, rfl, h2, h3⟩ := q.read w h1
  exact ⟨a, xs, rfl, h2, fun l hl => k _ _ _ _ (p l) (hid_cons_new rfl hl) (w.newL m hl h3) rfl⟩
/-- tuple(xs): a new one whose object is known, or the very tuple -/
def rTupR (K : PySem.W.Frag) : List V → Hp → VK → Prop := fun xs H Q => ∃ p ys, xs = [.ref p] ∧ ((SqL K H p ys ∧ ∀ (l : Addr) (o : Obj), H l = none → o.dict = none → Q (.ref l) (upd H l (.frz o (.tup ys)))) ∨ (SqT K H p ys ∧ Q (.ref p) H))
theorem call_tupR {X : Cx} : CallR X (.type "tuple") (rTupR X.K) := by
  intro pins s σ H xs us Q I r hyp
  obtain ⟨p, ys, rfl, hyp⟩ := hyp
  obtain ⟨u, rfl, rx⟩ := vals1 r
  cases rx
  rcases hyp with ⟨hq, q⟩ | ⟨hq, q⟩
  · obtain ⟨its, rv, pl, hz⟩ := I.list hq
    have hlen := rv.length
    refine call_tuple_list pl.isList (fun h' kp => ?_) (by simp only [List.size_toArray] <;> omega)
    have I1 : Inv X pins σ H { s with heap := h' } := I.kept (t' := s.toks) kp
    have hT : (h'.push { cls := .type "tuple", data := .seq its.toArray }).get? h'.objs.size = some { cls := .type "tuple", data := .seq its.toArray } := Heap.get?_push_size _ rfl
    exact ⟨.ref h'.objs.size, upd H h'.objs.size (.frz { cls := .type "tuple", data := .seq its.toArray } (.tup ys)), I1.laid (t' := s.toks) (fun b o ez => Heap.get?_push_of_some _ ez) (Nat.le_refl _) ⟨hT, hz, its, rv, ⟨_, hT, rfl, _, rfl⟩⟩, rfl, q _ _ (I1.hok.fresh (Nat.le_refl _)) rfl⟩
  · obtain ⟨its, rv, pl, hz⟩ := I.tuple hq
    exact call_tuple_same pl ⟨.ref p, H, I, rfl, q⟩
theorem new_rt {H : Hp} (w : OwnOk K H O) {Q : VK} {xs : List V} {ds : List D} {l : Addr} {o : Obj} (hl : H l = none) (ho : o.dict = none) (hd : Dens K (hid O H) xs ds) (p : P (.d (.rt ds)) O)
    (k : ∀ z H' s O', P s O' → Same (hid O H) (hid O' H') → OwnOk K H' O' → VOk K (hid O' H') z s → Q z H') : Q (.ref l) (upd H l (.frz o (.tup xs))) := by
  have st := w.alloc (o := .frz o (.tup xs)) hl
  have d := hd.mono st.same
  exact k _ _ _ O p st.same (w.step st) (.rt (hid_of upd_same (w.fresh hl)) ho d.len d.at')
/-- lists and such tuples alone -/
inductive SeqR (O : OO) : Sl → List D → Prop where
  | lst (ds : List D) : SeqR O (.d (.lst ds)) ds
  | rt (ds : List D) : SeqR O (.d (.rt ds)) ds
  | own {l : Nat} {a : Addr} {ds : List D} (h : look O l = some (a, .ol ds)) : SeqR O (.p l a) ds
theorem a_tuple {s : Sl} {ds : List D} (q : SeqR O s ds) (p : P (.d (.rt ds)) O) : aRC K (rTupR K) [s] O P := fun H vs w hv Q k => by
  obtain ⟨v, rfl, h1⟩ := sls1 hv
  cases q with
  | lst =>
    obtain ⟨a, xs, rfl, h2, h3⟩ := (SeqL.lst (O := O) ds).read w h1
    exact ⟨a, xs, rfl, .inl ⟨SqL.of h2, fun l o hl ho => new_rt w hl ho h3 p k⟩⟩
  | own hl =>
    obtain ⟨a, xs, rfl, h2, h3⟩ := (SeqL.own hl).read w h1
    exact ⟨a, xs, rfl, .inl ⟨SqL.of h2, fun l o hl ho => new_rt w hl ho h3 p k⟩⟩
  | rt =>
    obtain ⟨a, xs, rfl, h2, h3⟩ := (TupD.rt ds).read h1
    exact ⟨a, xs, rfl, .inr ⟨seqT hid_same h2, k _ H _ O p (Same.refl _) w h1⟩⟩
theorem a_int {i : Int} (p : P (.d (.int i)) O) : aRC K (fun xs H Q => (∃ i, xs = [.int i] ∧ Q (.int i) H) ∨ ∃ k, xs = [.bl k] ∧ Q (.int (if k then 1 else 0)) H) [.d (.int i)] O P := fun H vs w hv Q k => by
  obtain ⟨v, rfl, h1⟩ := sls1 hv
  cases h1
  exact .inl ⟨i, rfl, k _ H _ O p (Same.refl _) w (.int _)⟩
theorem a_strInt {i : Int} (hi : i.natAbs.log2 < 1920) (p : P (.d (.str (toString i))) O) : aRC K (fun xs H Q => ∃ i, xs = [.int i] ∧ i.natAbs.log2 < 1920 ∧ Q (.str (toString i)) H) [.d (.int i)] O P := fun H vs w hv Q k => by
  obtain ⟨v, rfl, h1⟩ := sls1 hv
  cases h1
  exact ⟨i, rfl, hi, k _ H _ O p (Same.refl _) w (.str _)⟩
theorem a_max2 {i j : Int} (p : P (.d (.int (if j > i then j else i))) O) : aRC K (fun xs H Q => ∃ i j, xs = [.int i, .int j] ∧ Q (.int (if j > i then j else i)) H) [.d (.int i), .d (.int j)] O P := fun H vs w hv Q k => by
  obtain ⟨v, u, rfl, h1, h2⟩ := sls2 hv
  cases h1; cases h2
  exact ⟨i, j, rfl, k _ H _ O p (Same.refl _) w (.int _)⟩
theorem a_addS {x y : Str} (hz : x.length + y.length ≤ sizeLine) (p : P (.d (.str (x ++ y))) O) : aR2 K (fun x y H Q => ∃ i j, x = .str i ∧ y = .str j ∧ i.length + j.length ≤ sizeLine ∧ Q (.str (i ++ j)) H) (.d (.str x)) (.d (.str y)) O P := a2 (fun H v u w hv hu Q q => by
  cases hv; cases hu; exact ⟨x, y, rfl, rfl, hz, q _ (.str _)⟩) p
theorem a_all {bs : List Bool} {s : Sl} (q : SeqL O s (bs.map D.bl)) (p : P (.d (.bl (bs.all id))) O) : aRC K (rAll K) [s] O P := fun H vs w hv Q k => by
  obtain ⟨v, rfl, h1⟩ := sls1 hv
  obtain ⟨a, xs, rfl, h2, h3⟩ := q.read w h1
  have e := h3.bls
  subst e
  exact ⟨a, bs, rfl, SqL.of h2, k _ H _ O p (Same.refl _) w (.bl _)⟩
theorem a_any {bs : List Bool} {s : Sl} (q : SeqL O s (bs.map D.bl)) (p : P (.d (.bl (bs.any id))) O) : aRC K (rAny K) [s] O P := fun H vs w hv Q k => by
  obtain ⟨v, rfl, h1⟩ := sls1 hv
  obtain ⟨a, xs, rfl, h2, h3⟩ := q.read w h1
  have e := h3.bls
  subst e
  exact ⟨a, bs, rfl, SqL.of h2, k _ H _ O p (Same.refl _) w (.bl _)⟩
theorem new_lst {H : Hp} (w : OwnOk K H O) {Q : VK} {xs : List V} {ds : List D} {l : Addr} (hl : H l = none) (hd : Dens K (hid O H) xs ds) (p : P (.d (.lst ds)) O)
    (k : ∀ z H' s O', P s O' → Same (hid O H) (hid O' H') → OwnOk K H' O' → VOk K (hid O' H') z s → Q z H') : Q (.ref l) (upd H l (.lst xs)) := by
  have st := w.alloc (o := .lst xs) hl
  have d := hd.mono st.same
  exact k _ _ _ O p st.same (w.step st) (.lst (hid_of upd_same (w.fresh hl)) d.len d.at')
theorem a_sorted {xs : List Str} {s : Sl} (q : SeqL O s (xs.map D.str)) (hz : xs.length < 64) (p : ∀ ys : List Str, ys.Perm xs → PyProof.Rows.sortedS ys = true → P (.d (.lst (ys.map D.str))) O) : aRC K (rSortedS K) [s] O P := fun H vs w hv Q k => by
  obtain ⟨v, rfl, h1⟩ := sls1 hv
  obtain ⟨a, us, rfl, h2, h3⟩ := q.read w h1
  have e := h3.strs
  subst e
  exact ⟨a, xs, rfl, SqL.of h2, hz, fun ys l py sy hl => new_lst w hl (Dens.of_strs ys) (p ys py sy) k⟩
theorem a_sortedD {kvs : List (Str × D)} {s : Sl} (q : Dct O s kvs) (hz : kvs.length < 64) (p : ∀ ys : List Str, ys.Perm (kvs.map (·.1)) → PyProof.Rows.sortedS ys = true → P (.d (.lst (ys.map D.str))) O) :
    aRC K (fun xs H Q => ∃ (a : Addr) (kvs : List (Key × V)) (ks : List Str), xs = [.ref a] ∧ Rd H a (.dK kvs) ∧ kvs.map (·.1) = ks.map Sum.inr ∧ ks.length < 64 ∧ ∀ ys p, ys.Perm ks → PyProof.Rows.sortedS ys = true → H p = none → Q (.ref p) (upd H p (.lst (ys.map V.str)))) [s] O P := fun H vs w hv Q k => by
  obtain ⟨v, rfl, h1⟩ := sls1 hv
  obtain ⟨a, ps, rfl, h2, h3⟩ := q.read w h1
  exact ⟨a, ps, kvs.map (·.1), rfl, h2, by rw [h3.keys, List.map_map]; rfl, by simpa using hz, fun ys l py sy hl => new_lst w hl (Dens.of_strs ys) (p ys py sy) k⟩

/-! ### kinds -/
def D.ty : D → Option String
  | .non => some "NoneType" | .bl _ => some "bool" | .int _ => some "int" | .str _ => some "str" | .lst _ => some "list" | .tup _ => some "tuple" | .rt _ => some "tuple" | .dct _ => some "dict" | .obj _ _ => none
theorem Den.tyx {G H : Hp} {v : V} {d : D} (sm : Same G H) (h : Den K G v d) {t : String} (e : d.ty = some t) : TyX K H v (.type t) := by
  cases h with
  | non => cases e; exact .base .non
  | bl b => cases e; exact .base (.bl _)
  | int b => cases e; exact .base (.int _)
  | str b => cases e; exact .base (.str _)
  | lst h _ _ => cases e; exact .base (.lst (sm _ _ h))
  | tup h _ _ =>
    cases e
    rcases h with (h | ⟨o, h⟩) | ⟨o, its, n, h1, h2, _⟩
    · exact .base (.tup (sm _ _ h))
    · exact .fTuple (sm _ _ h)
    · exact .kTuple h1 h2
  | rt h _ _ _ => cases e; exact .fTuple (sm _ _ h)
  | dct h _ _ => cases e; exact .fDict (sm _ _ h)
  | obj => cases e
theorem wE_isi {n : String} (h : wE K te Γ O fun s O1 => ∃ d t b, s = .d d ∧ d.ty = some t ∧ kitB t n = some b ∧ P (.d (.bl b)) O1) : wE K (tCB (rIsi K) (tCons te (tCons (tC (.ty n)) tNil))) Γ O P := fun σ H w sl Q q =>
  h σ H w sl _ fun v H1 s O1 ⟨d, t, b, e, et, kb, p⟩ s1 w1 v1 => by
    subst e
    exact ⟨v, .ty n, .type t, .type n, b, rfl, .ty n, v1.tyx hid_same et, kit_ty kb, q _ H1 _ O1 p s1 w1 (.bl _)⟩
def tysOf : List String → TA
  | [] => tNil
  | n :: r => tCons (tC (.ty n)) (tysOf r)
theorem tysOf_run {ns : List String} {σ : L2.St} {H : Hp} {Q : List V → Hp → Prop} (h : Q (ns.map V.ty) H) : tysOf ns σ H Q := by
  induction ns generalizing Q with
  | nil => exact h
  | cons n r ih =>
    show tysOf r σ H fun xs H2 => Q (.ty n :: xs) H2
    exact ih h
def kitBs (t : String) : List String → Option Bool
  | [] => some false
  | n :: r => match kitB t n with
    | some true => some true
    | some false => kitBs t r
    | none => none
theorem kitBs_any {t : String} : ∀ {ns : List String} {b : Bool}, kitBs t ns = some b → PySem.W.kitAny K (.type t) (ns.map Value.type) = some b
  | [], b, h => by cases h; exact kitAny_nil
  | n :: r, b, h => by
    unfold kitBs at h
    cases e : kitB t n with
    | none => rw [e] at h; cases h
    | some c =>
      rw [e] at h
      cases c with
      | true => cases h; exact kitAny_cons (b := true) (kit_ty e) (fun z => by cases z) fun _ => rfl
      | false => exact kitAny_cons (b := false) (kit_ty e) (fun _ => kitBs_any h) (fun z => by cases z)
theorem clsvs : ∀ ns : List String, Paired ClsV (ns.map V.ty) (ns.map Value.type)
  | [] => .nil
  | n :: r => .cons (.ty n) (clsvs r)
theorem wE_isiT {ns : List String} (h : wE K te Γ O fun s O1 => ∃ d t b, s = .d d ∧ d.ty = some t ∧ kitBs t ns = some b ∧ P (.d (.bl b)) O1) (hn : ns.length ≤ 1000) : wE K (tCB (rIsiT K) (tCons te (tCons (tTup (tysOf ns)) tNil))) Γ O P := fun σ H w sl Q q =>
  h σ H w sl _ fun v H1 s O1 ⟨d, t, b, e, et, kb, p⟩ s1 w1 v1 => by
    subst e
    show tysOf ns σ H1 _
    refine tysOf_run ⟨by rw [List.length_map]; exact Nat.le_trans hn (by decide), fun a ha => ?_⟩
    have st := w1.alloc (o := .tup (ns.map V.ty)) ha
    have v2 := v1.mono st.same
    refine ⟨v, a, ns.map V.ty, .type t, ns.map Value.type, b, rfl, upd_same, ?_, Den.tyx hid_same v2 et, kitBs_any kb, q _ _ _ O1 p (s1.trans st.same) (w1.step st) (.bl _)⟩
    exact clsvs ns
/-- what a class must be for isinstance of its instances -/
structure IsC (K : PySem.W.Frag) (C : Addr) : Prop where
  cl : Cls K C
  ha : PySem.W.findIn K (.ref C) "__class__" = some (some (.builtin "object.__class__"))
  hn : PySem.W.specialIn K (.builtin "object.__class__") "__get__" = some (some (.builtin "getset_descriptor.__get__"))
  htk : PySem.W.takesIn K (.builtin "object.__class__") = some true
  hm : PySem.W.mroIn K C (.type "object") = some true
  self : PySem.W.kitOne K (.ref C) (.ref C) = some true
theorem wE_isC {C : Addr} (h : wE K te Γ O fun s O1 => ∃ fs, s = .d (.obj C fs) ∧ IsC K C ∧ P (.d (.bl true)) O1) : wE K (tCB (rIsi K) (tCons te (tCons (tC (.ref C)) tNil))) Γ O P := fun σ H w sl Q q =>
  h σ H w sl _ fun v H1 s O1 ⟨fs, e, c, p⟩ s1 w1 v1 => by
    subst e
    obtain ⟨a, dx, ps, rfl, h1, _⟩ := (Ins.obj (O := O1) C fs).read w1 v1
    exact ⟨.ref a, .ref C, .ref C, .ref C, true, rfl, .own C, .base (.ins h1 c.cl c.ha c.hn c.htk c.hm), c.self, q _ H1 _ O1 p s1 w1 (.bl _)⟩
end
end Y

/-! Y: rules for lists and tuples alike: for, enumerate, zip. -/
namespace Y
open PySem PySem.Spec PyProof.Rows L2

/-- a list (false), a tuple (true) -/
def SqB (K : PySem.W.Frag) (t : Bool) (H : Hp) (a : Addr) (xs : List V) : Prop := match t with
  | true => SqT K H a xs
  | false => SqL K H a xs
def ItB (t : Bool) (h : Heap) (it a : Addr) (i : Nat) : Prop := match t with
  | true => h.IsTupleIter it a i
  | false => h.IsListIter it a i
def IsB (t : Bool) (h : Heap) (a : Addr) (items : Array Value) : Prop := match t with
  | true => h.IsTuple a items
  | false => h.IsList a items
section
variable {X : Cx} {pins : List (Addr × Obj)} {σ : L2.St} {H : Hp} {s : Shared} {t : Bool} {a : Addr} {xs ys : List V}
theorem sqB_at (I : Inv X pins σ H s) (h : SqB X.K t H a xs) : ∃ its : List Value, Vals xs its ∧ IsB t s.heap a its.toArray := by
  cases t with
  | true =>
    obtain ⟨its, rv, q, _⟩ := I.tuple h
    exact ⟨its, rv, q⟩
  | false =>
    obtain ⟨its, rv, q, _⟩ := I.list h
    exact ⟨its, rv, q.isList⟩
theorem sqB_inj (I : Inv X pins σ H s) (h : SqB X.K t H a xs) (h' : SqB X.K t H a ys) : xs = ys := by
  cases t with
  | true => exact I.tuple_inj h h'
  | false => exact I.list_inj h h'
theorem drawsB {prog : Program} {w : World} {A : Around} (t : Bool) (hh : A.handled = none) (it l : Addr) (hne : l ≠ it) (items : Array Value) :
    Draws prog w A it [it, l] items.size (fun i v => items[i]? = some v) (fun i h => ItB t h it l i ∧ IsB t h l items) := by
  cases t with
  | true => exact Draws.tuple hh it l hne items
  | false => exact Draws.list hh it l hne items
theorem itB_obj {h : Heap} {it : Addr} {i : Nat} (st : ItB t h it a i) : ∃ o, h.get? it = some o ∧ (∀ v, o.data ≠ .cell v) ∧ o.cls ≠ .type "tuple" ∧ o.cls ≠ .type "list" ∧ o.cls ≠ .type "enumerate" ∧ o.cls ≠ .type "zip" := by
  cases t with
  | true =>
    obtain ⟨o, h1, h2, h3⟩ := st
    exact ⟨o, h1, fun v z => by (rw [h3] at z; cases z), by rw [h2]; decide +kernel, by rw [h2]; decide +kernel, by rw [h2]; decide +kernel, by rw [h2]; decide +kernel⟩
  | false =>
    obtain ⟨o, h1, h2, h3⟩ := st
    exact ⟨o, h1, fun v z => by (rw [h3] at z; cases z), by rw [h2]; decide +kernel, by rw [h2]; decide +kernel, by rw [h2]; decide +kernel, by rw [h2]; decide +kernel⟩
theorem itB_keep {h h' : Heap} {it : Addr} {i : Nat} (st : ItB t h it a i) (k : ∀ o, h.get? it = some o → h'.get? it = some o) : ItB t h' it a i := by
  cases t with
  | true => exact Heap.IsTupleIter.at st k
  | false => exact Heap.IsListIter.at st k
theorem isB_obj {h : Heap} {items : Array Value} (q : IsB t h a items) : ∃ o, h.get? a = some o ∧ (o.cls = .type "tuple" ∨ o.cls = .type "list") := by
  cases t with
  | true => obtain ⟨o, h1, h2, _⟩ := q; exact ⟨o, h1, .inl h2⟩
  | false => obtain ⟨o, h1, h2, _⟩ := q; exact ⟨o, h1, .inr h2⟩
theorem isB_ne {h : Heap} {items : Array Value} {b : Addr} {o' : Obj} (q : IsB t h a items) (e : h.get? b = some o') (n1 : o'.cls ≠ .type "tuple") (n2 : o'.cls ≠ .type "list") : a ≠ b := by
  obtain ⟨o, h1, h2⟩ := isB_obj q
  intro z
  rw [z, e] at h1
  cases h1
  rcases h2 with y | y
  · exact n1 y
  · exact n2 y
/-- iter of it is new -/
def beginO (t : Bool) (a : Addr) : Obj := match t with
  | true => { cls := .type "tuple_iterator", data := .fields #[.ref a, .int 0 0] }
  | false => { cls := .type "list_iterator", data := .fields #[.ref a, .int 0 0] }
theorem beginsB (t : Bool) (a : Addr) (items : Array Value) : Begins (.ref a) (beginO t a) fun h => IsB t h a items := by
  cases t with
  | true => exact begins_tuple a items
  | false => exact begins_list a items
theorem itB_new {h : Heap} {it : Addr} (e : h.get? it = some (beginO t a)) : ItB t h it a 0 := by
  cases t with
  | true => exact ⟨_, e, rfl, rfl⟩
  | false => exact ⟨_, e, rfl, rfl⟩
end

/-! ### enumerate -/
set_option maxHeartbeats 1000000 in
theorem enumMeets {v : Value} {o : Obj} {Hh : Heap → Prop} (B : Begins v o Hh) :
    Meets (Builtin.«enumerate.__new__» ⟨[.type "enumerate", v], []⟩) (fun _ R s => Hh s.heap ∧
      R (.ok (.ret (.ref (s.heap.push o).objs.size))) { s with heap := (s.heap.push o).push { cls := .type "enumerate", data := .fields #[.none, .bool false, .ref s.heap.objs.size, rawInt 0, .none, .none] } }) :=
  .of_wp fun prog w A R s hyp => by
    obtain ⟨hp, gs, dr, tk, os⟩ := s
    obtain ⟨hB, hR⟩ := hyp
    have hsb := sub_enumerate
    have iterB : ∀ {A' : Around} {E : Value → Shared → Prop} {Q : Value → Shared → Prop}, Q (.ref hp.objs.size) ⟨hp.push o, gs, dr, tk, os⟩ → wpAny (model prog w) A' (pyIter v) Q E ⟨hp, gs, dr, tk, os⟩ := fun hQ => B.iter prog w _ _ ⟨hp, gs, dr, tk, os⟩ _ hB hQ
    wp_walk using iterB
    refine wpAny_stack_any fun stk => wpAny_pure ?_
    split
    · rename_i cc _ _ _ _ _
      cases (cc == Value.type "enumerate")
      · (wp_walk using iterB); exact ⟨_, rfl, hR⟩
      · (wp_walk using iterB); exact ⟨_, rfl, hR⟩
    · (wp_walk using iterB); exact ⟨_, rfl, hR⟩
theorem callEnum {prog : Program} {w : World} {A : Around} {E : Value → Shared → Prop} {s : Shared} {v : Value} {o : Obj} {Hh : Heap → Prop} {Q : Value → Shared → Prop} (B : Begins v o Hh) (hB : Hh s.heap)
    (k : ∀ h', IsEnum h' (s.heap.objs.size + 1) s.heap.objs.size 0 .none → h'.get? s.heap.objs.size = some o → h'.objs.size = s.heap.objs.size + 2 → (∀ b u, s.heap.get? b = some u → h'.get? b = some u) → Q (.ref (s.heap.objs.size + 1)) { s with heap := h' }) :
    wpAny (model prog w) A (call (.type "enumerate") [v]) Q E s := by
  refine callType_new F.called_enumerate (by decide) (F.typeCall_enumerate_1 _) (F.newCall_enumerate_1 _) (fun obj => F.args_object_init_2 obj _) F.entry_enumerate_new (enumMeets B) ⟨hB, ?_⟩
  have hsz : (s.heap.push o).objs.size = s.heap.objs.size + 1 := Heap.size_push ..
  show _ ∧ _
  rw [hsz]
  have hen : IsEnum ((s.heap.push o).push { cls := .type "enumerate", data := .fields #[.none, .bool false, .ref s.heap.objs.size, rawInt 0, .none, .none] }) (s.heap.objs.size + 1) s.heap.objs.size 0 .none := by
    have z := Heap.get?_push_size (s.heap.push o) (o := { cls := .type "enumerate", data := .fields #[.none, .bool false, .ref s.heap.objs.size, rawInt 0, .none, .none] }) rfl
    rw [hsz] at z
    exact z
  exact ⟨⟨_, hen, rfl⟩, k _ hen (Heap.get?_push_of_some _ (Heap.get?_push_size _ B.free)) (by rw [Heap.size_push, hsz]) fun b u x => Heap.get?_push_of_some _ (Heap.get?_push_of_some _ x)⟩
/-- each item with its number, a new pair -/
def IteB (K : PySem.W.Frag) (t : Bool) (a : Addr) : It :=
  ⟨fun i H => ∃ (xs : List V) (x : V), SqB K t H a xs ∧ xs[i]? = some x, fun i H v H' => ∃ T x, v = .ref T ∧ H T = none ∧ H' = upd H T (.tup [.int (i : Nat), x]) ∧ ∀ xs, SqB K t H a xs → xs[i]? = some x, fun i H => ∃ xs : List V, SqB K t H a xs ∧ xs.length ≤ i⟩
theorem turn_enumB {P : Program} {w : World} {K : PySem.W.Frag} {elts : List Expr} {kk : Nat} {tpos : Pos} (t : Bool) (a e it : Addr) :
    Turn P w K (.Tuple elts kk tpos) (IteB K t a) [e, it] e (fun i h => (∃ old, IsEnum h e it ((i : Nat) : Int) old) ∧ ItB t h it a i ∧ e ≠ it) where
  mem := List.mem_cons_self
  obj := fun i h st b hb => by
    obtain ⟨⟨old, he⟩, hit, _⟩ := st
    rcases (show b = e ∨ b = it by simpa using hb) with rfl | rfl
    · exact ⟨_, he, fun v q => nomatch q⟩
    · obtain ⟨o, h1, h2, _⟩ := itB_obj hit; exact ⟨o, h1, h2⟩
  keep := fun i h h' st k => ⟨st.1.elim fun old he => ⟨old, k e List.mem_cons_self _ he⟩, itB_keep st.2.1 fun o q => k it (by simp) o q, st.2.2⟩
  item := by
    intro X hP hw hK hc i pins s σ H E I hf st hg
    subst hP hw hK
    obtain ⟨⟨old, he⟩, hit, hne⟩ := st
    obtain ⟨xs, x, hq, hx⟩ := hg
    obtain ⟨its, rv, hB⟩ := sqB_at I hq
    obtain ⟨u, hu, ru⟩ := rv.get hx
    obtain ⟨oi, hoi, _, nt, nl, _⟩ := itB_obj hit
    have ai : a ≠ it := isB_ne hB hoi nt nl
    have ae : a ≠ e := isB_ne hB he (show Value.type "enumerate" ≠ .type "tuple" by decide +kernel) (show Value.type "enumerate" ≠ .type "list" by decide +kernel)
    have lte := Heap.lt_size he
    have lti := Heap.lt_size hoi
    refine wpAny_pyNext_enum_itemD (A := X.A) (drawsB t (A := X.A.in1) (I.ok.hd hc) it a ai its.toArray) he ⟨hit, hB⟩ (by have := (List.getElem?_eq_some_iff.mp hu).1; simpa using this) hne (by simp [hne, ae.symm]) fun y h' tk hy ho hst hT hsz hk => ?_
    have ey : y = u := by
      have z : its.toArray[i]? = some y := hy
      rw [List.getElem?_toArray, hu] at z
      exact (Option.some.inj z).symm
    subst ey
    refine ⟨_, rfl, wpAny_letOwnedTupleGo_enum (s := { s with heap := h', toks := tk + 1 }) ho fun h'' he' sb => ?_⟩
    have hT2 : h''.get? s.heap.objs.size = some { cls := .type "tuple", data := .seq #[.int i tk, y] } := (sb.2 _ (Nat.ne_of_gt lte)).trans hT
    have fresh := I.hok.fresh (a := s.heap.objs.size) (Nat.le_refl _)
    have I1 : Inv X pins σ (upd H s.heap.objs.size (.tup [.int (i : Nat), x])) { s with heap := h'', toks := tk + 1 } :=
      I.turnedNew (ch := [e, it]) (fun b ob hb q => by
        have hb' : b ≠ e ∧ b ≠ it := by simpa using hb
        exact (sb.2 b hb'.1).trans (hk b ob hb'.1 hb'.2 q)) hf (Nat.le_refl _) ⟨show 2 ≤ sizeLine by decide, [.int i tk, y], .cons ⟨_, rfl⟩ (.cons ru .nil), ⟨_, hT2, rfl, _, rfl⟩⟩
    have e9 : (i : Int) + 1 = ((i + 1 : Nat) : Int) := by omega
    refine ⟨.ref s.heap.objs.size, _, I1, rfl, ⟨_, x, rfl, fresh, rfl, fun zs hz => by rw [sqB_inj I hz hq]; exact hx⟩, ⟨⟨y, e9 ▸ he'⟩, itB_keep hst.1 fun o q => (sb.2 it hne.symm).trans q, hne⟩, fun b hb => ?_⟩
    have lb : b ≠ s.heap.objs.size := by
      rcases (show b = e ∨ b = it by simpa using hb) with rfl | rfl
      · exact Nat.ne_of_lt lte
      · exact Nat.ne_of_lt lti
    rw [upd_ne lb]
    exact (hf b hb).1
  done := by
    intro X hP hw hK hc i pins s σ H E I hf st hg
    subst hP hw hK
    obtain ⟨⟨old, he⟩, hit, hne⟩ := st
    obtain ⟨xs, hq, hx⟩ := hg
    obtain ⟨its, rv, hB⟩ := sqB_at I hq
    have hl := rv.length
    cases t with
    | true =>
      obtain ⟨f0, f1, f2, f3, f4, f5⟩ := hf it (by simp)
      have hlast : Draws X.prog X.w X.A.in1 it [it, a] i (fun j v => its.toArray[j]? = some v ∧ False) (fun j h => h.IsTupleIter it a j ∧ h.IsTuple a its.toArray ∧ i ≤ j) :=
        { live := fun _ _ st => let ⟨o, ho, _⟩ := st.1; ⟨o, ho⟩
          frame := fun _ _ _ st hk => ⟨st.1.at fun o e => hk it (by simp) o e, st.2.1.at fun o e => hk a (by simp) o e, st.2.2⟩
          item := fun j s Q E hj st hQ => absurd st.2.2 (by omega)
          done := fun s Q E st hE => wpAny_nextOf_tuple_end (I.ok.hd hc) st.1 st.2.1 (by simp; omega) hE }
      exact wpAny_pyNext_enum_endD hlast he ⟨hit, hB, Nat.le_refl _⟩ fun h' eb => ⟨rfl, I.turned (t' := s.toks) (fun b o hb q => eb b o hb q) f0 f1 f3 f4 f5⟩
    | false =>
      obtain ⟨f0, f1, f2, f3, f4, f5⟩ := hf it (by simp)
      exact wpAny_pyNext_enum_end (I.ok.hd hc) he hit hB (by simp; omega) fun h' eb => ⟨rfl, I.turned (t' := s.toks) (fun b o hb q => eb b o hb q) f0 f1 f3 f4 f5⟩
  self := fun A i s Q E st h => st.1.elim fun _ he => wpAny_pyIter_enum he h
def iEnumB (K : PySem.W.Frag) (ta : TA) : TI := fun σ H R => ta σ H fun vs H1 => ∃ t a xs, vs = [.ref a] ∧ SqB K t H1 a xs ∧ R (IteB K t a) H1
theorem pi_enumB {X : Cx} {e : Expr} {ta : TA} {p pos tpos : Pos} {elts : List Expr} {kk : Nat} (hg : Gl X "enumerate") (hm : X.mg "enumerate" = none) (ha : PA X [e] ta) (hs : starEach [e] X.env = [(false, eval e X.env)] := by rfl) :
    PI X (.Tuple elts kk tpos) (.Call (.Name "enumerate" p) [e] [] pos) (iEnumB X.K ta) := by
  refine ⟨fun pins s σ H R I hyp => ?_⟩
  refine Call_ (ld_blt I hg hm boot_enumerate (PyProof.Rows.callWith_type1 (thn (ha.run pos pins s σ H _ I hyp) fun us s1 ⟨vs, H1, I1, rvs, t, a, xs, ex, hq, hR⟩ => ?_) hs rfl))
  subst ex
  cases rvs with
  | cons rv0 rest =>
    cases rest
    cases rv0
    obtain ⟨its, rv, hB⟩ := sqB_at I1 hq
    refine callEnum (beginsB t a its.toArray) hB fun h' he hit hsz hk => wpAny_pyIter_enum he ?_
    refine ⟨_, [s1.heap.objs.size + 1, s1.heap.objs.size], _, _, H1, rfl, I1.kept (t' := s1.toks) hk, turn_enumB t a _ s1.heap.objs.size, ⟨⟨.none, he⟩, itB_new hit, Nat.succ_ne_self _⟩, fun b hb => ?_, hR⟩
    have hle : s1.heap.objs.size ≤ b := by
      rcases (show b = s1.heap.objs.size + 1 ∨ b = s1.heap.objs.size by simpa using hb) with z | z
      · rw [z]; exact Nat.le_add_right _ _
      · rw [z]; exact Nat.le_refl _
    exact I1.fpOk hle (I1.hok.fresh hle)

/-! ### zip -/
theorem addne {n a b : Nat} (h : a ≠ b) : (n + a : Nat) ≠ n + b := by omega
def ItzB (K : PySem.W.Frag) (t u : Bool) (a b : Addr) : It :=
  ⟨fun i H => ∃ (xs ys : List V) (x y : V), SqB K t H a xs ∧ SqB K u H b ys ∧ xs[i]? = some x ∧ ys[i]? = some y,
    fun i H v H' => ∃ T x y, v = .ref T ∧ H T = none ∧ H' = upd H T (.tup [x, y]) ∧ (∀ xs, SqB K t H a xs → xs[i]? = some x) ∧ ∀ ys, SqB K u H b ys → ys[i]? = some y,
    fun i H => ∃ xs ys : List V, SqB K t H a xs ∧ SqB K u H b ys ∧ (xs.length = i ∧ i ≤ ys.length ∨ ys.length = i ∧ i ≤ xs.length)⟩
/-- the five cells of a zip -/
structure Apart (z TI TO i1 i2 : Addr) : Prop where
  a1 : TI ≠ z
  a2 : TO ≠ z
  a3 : TI ≠ TO
  a4 : TI ≠ i1
  a5 : TI ≠ i2
  a6 : z ≠ i1
  a7 : z ≠ i2
  a8 : TO ≠ i1
  a9 : TO ≠ i2
  b1 : i1 ≠ i2
theorem zipSep {t u : Bool} {h : Heap} {z TI TO i1 i2 a b : Addr} {xs ys : Array Value} {i j : Nat} (D : Apart z TI TO i1 i2) (hz : IsZip h z TI TO .none) (hB1 : IsB t h a xs) (hB2 : IsB u h b ys) (h1 : ItB t h i1 a i) (h2 : ItB u h i2 b j) (nTO1 : TO ≠ a) (nTO2 : TO ≠ b) :
    ZipSep2 z TI TO i1 i2 [i1, a] [i2, b] := by
  obtain ⟨o1, e1, _, n1, n2, _⟩ := itB_obj h1
  obtain ⟨o2, e2, _, m1, m2, _⟩ := itB_obj h2
  have za : a ≠ z := isB_ne hB1 hz (show Value.type "zip" ≠ .type "tuple" by decide +kernel) (show Value.type "zip" ≠ .type "list" by decide +kernel)
  have zb : b ≠ z := isB_ne hB2 hz (show Value.type "zip" ≠ .type "tuple" by decide +kernel) (show Value.type "zip" ≠ .type "list" by decide +kernel)
  have x1 : a ≠ i2 := isB_ne hB1 e2 m1 m2
  have x2 : b ≠ i1 := isB_ne hB2 e1 n1 n2
  exact { TIz := D.a1, TOz := D.a2, TITO := D.a3, TIi1 := D.a4, mem1 := by simp, zf1 := by simp [D.a6, za.symm], Tf1 := by simp [D.a8, nTO1], TIi2 := D.a5, mem2 := by simp, zf2 := by simp [D.a7, zb.symm], Tf2 := by simp [D.a9, nTO2], sep1_2 := by simp [D.b1, x2.symm], sep2_1 := by simp [D.b1.symm, x1.symm] }
/-- an untracked cell is none of a row's -/
theorem sqB_free {X : Cx} {pins : List (Addr × Obj)} {σ : L2.St} {H : Hp} {s : Shared} {t : Bool} {a c : Addr} {xs : List V} (I : Inv X pins σ H s) (h : SqB X.K t H a xs) (f : FpOk X pins H c) : c ≠ a := by
  obtain ⟨f0, _, _, f3, _⟩ := f
  have base : ∀ o, X.K.lookup a = some o → c ≠ a := fun o hk z => by
    have hb : X.base.get? a = some o := I.ok.mod.kin a o hk
    rcases f3 with f3 | f3
    · exact I.ok.noex a o hb (z ▸ f3)
    · exact absurd (Nat.lt_of_lt_of_le (Heap.lt_size (I.ok.bs a o hb).1) (z ▸ f3)) (Nat.lt_irrefl _)
  have rd : ∀ u, Rd H a u → c ≠ a := fun u hr z => by
    rcases hr with hr | ⟨o, hr⟩
    · rw [← z, f0] at hr; cases hr
    · rw [← z, f0] at hr; cases hr
  cases t with
  | true =>
    rcases h with h | ⟨o, its, n, hk, _⟩
    · exact rd _ h
    · exact base o hk
  | false =>
    rcases h with h | ⟨o, its, n, hk, _⟩
    · exact rd _ h
    · exact base o hk
theorem turn_zipB {P : Program} {w : World} {K : PySem.W.Frag} {elts : List Expr} {kk : Nat} {tpos : Pos} {t u : Bool} {a b z TI TO i1 i2 : Addr} (D : Apart z TI TO i1 i2) :
    Turn P w K (.Tuple elts kk tpos) (ItzB K t u a b) [z, TI, TO, i1, i2] z (fun i h => IsZip h z TI TO .none ∧ IsTupOf2 h TI (.ref i1) (.ref i2) ∧ (∃ x y, IsTupOf2 h TO x y) ∧ ItB t h i1 a i ∧ ItB u h i2 b i) where
  mem := List.mem_cons_self
  obj := fun i h st c hc => by
    obtain ⟨hz, hTI, ⟨x, y, hTO⟩, h1, h2⟩ := st
    obtain ⟨o1, e1, d1, _⟩ := itB_obj h1
    obtain ⟨o2, e2, d2, _⟩ := itB_obj h2
    rcases (show c = z ∨ c = TI ∨ c = TO ∨ c = i1 ∨ c = i2 by simpa using hc) with rfl | rfl | rfl | rfl | rfl
    · exact ⟨_, hz, fun v q => nomatch q⟩
    · exact ⟨_, hTI, fun v q => nomatch q⟩
    · exact ⟨_, hTO, fun v q => nomatch q⟩
    · exact ⟨o1, e1, d1⟩
    · exact ⟨o2, e2, d2⟩
  keep := fun i h h' st k => by
    obtain ⟨hz, hTI, ⟨x, y, hTO⟩, h1, h2⟩ := st
    exact ⟨k z (by simp) _ hz, k TI (by simp) _ hTI, ⟨x, y, k TO (by simp) _ hTO⟩, itB_keep h1 fun o q => k i1 (by simp) o q, itB_keep h2 fun o q => k i2 (by simp) o q⟩
  item := by
    intro X hP hw hK hc i pins s σ H E I hf st hg
    subst hP hw hK
    obtain ⟨hz, hTI, ⟨x0, y0, hTO⟩, h1, h2⟩ := st
    obtain ⟨xs, ys, x, y, hqx, hqy, hx, hy⟩ := hg
    obtain ⟨its, rv, hB1⟩ := sqB_at I hqx
    obtain ⟨its2, rv2, hB2⟩ := sqB_at I hqy
    obtain ⟨c1, hc1, rc1⟩ := rv.get hx
    obtain ⟨c2, hc2, rc2⟩ := rv2.get hy
    obtain ⟨oi1, hoi1, _, na1, na2, _⟩ := itB_obj h1
    obtain ⟨oi2, hoi2, _, nb1, nb2, _⟩ := itB_obj h2
    have S := zipSep D hz hB1 hB2 h1 h2 (sqB_free I hqx (hf TO (by simp))) (sqB_free I hqy (hf TO (by simp)))
    have ltz := Heap.lt_size hz
    refine wpAny_pyNext_zipD2_item S (drawsB t (A := X.A.in1) (I.ok.hd hc) i1 a (isB_ne hB1 hoi1 na1 na2) its.toArray) (drawsB u (A := X.A.in1) (I.ok.hd hc) i2 b (isB_ne hB2 hoi2 nb1 nb2) its2.toArray) hz hTI hTO ⟨h1, hB1⟩ ⟨h2, hB2⟩
      (by have := (List.getElem?_eq_some_iff.mp hc1).1; simpa using this) (by have := (List.getElem?_eq_some_iff.mp hc2).1; simpa using this) fun g1 g2 h' tk p1 p2 z' TO' st1 st2 hT hsz hk => ?_
    have e1 : g1 = c1 := by
      have q : its.toArray[i]? = some g1 := p1
      rw [List.getElem?_toArray, hc1] at q
      exact (Option.some.inj q).symm
    have e2 : g2 = c2 := by
      have q : its2.toArray[i]? = some g2 := p2
      rw [List.getElem?_toArray, hc2] at q
      exact (Option.some.inj q).symm
    subst e1 e2
    refine ⟨_, rfl, wpAny_letOwnedTupleGo_zip (s := { s with heap := h', toks := tk }) z' fun h'' z'' sb => ?_⟩
    have hT2 : h''.get? s.heap.objs.size = some { cls := .type "tuple", data := .seq #[g1, g2] } := (sb.2 _ (Nat.ne_of_gt ltz)).trans hT
    have I1 : Inv X pins σ (upd H s.heap.objs.size (.tup [x, y])) { s with heap := h'', toks := tk } :=
      I.turnedNew (ch := [z, TI, TO, i1, i2]) (fun c o hb q => by
        have hb' : c ≠ z ∧ c ≠ TI ∧ c ≠ TO ∧ c ≠ i1 ∧ c ≠ i2 := by simpa using hb
        exact (sb.2 c hb'.1).trans (hk c o hb'.1 hb'.2.2.1 hb'.2.2.2.1 hb'.2.2.2.2 q)) hf (Nat.le_refl _) ⟨show 2 ≤ sizeLine by decide, [g1, g2], .cons rc1 (.cons rc2 .nil), ⟨_, hT2, rfl, _, rfl⟩⟩
    refine ⟨.ref s.heap.objs.size, _, I1, rfl, ⟨_, x, y, rfl, I.hok.fresh (Nat.le_refl _), rfl, fun l hl => by rw [sqB_inj I hl hqx]; exact hx, fun l hl => by rw [sqB_inj I hl hqy]; exact hy⟩, ⟨z'', ?_, ⟨g1, g2, (sb.2 _ D.a2).trans TO'⟩, ?_, ?_⟩, fun c hcm => ?_⟩
    · exact (sb.2 _ D.a1).trans (hk _ _ D.a1 D.a3 D.a4 D.a5 hTI)
    · exact itB_keep st1.1 fun o q => (sb.2 _ D.a6.symm).trans q
    · exact itB_keep st2.1 fun o q => (sb.2 _ D.a7.symm).trans q
    · have hlt : c < s.heap.objs.size := by
        rcases (show c = z ∨ c = TI ∨ c = TO ∨ c = i1 ∨ c = i2 by simpa using hcm) with rfl | rfl | rfl | rfl | rfl
        · exact ltz
        · exact Heap.lt_size hTI
        · exact Heap.lt_size hTO
        · exact Heap.lt_size hoi1
        · exact Heap.lt_size hoi2
      rw [upd_ne (Nat.ne_of_lt hlt)]
      exact (hf c hcm).1
  done := by
    intro X hP hw hK hc i pins s σ H E I hf st hg
    subst hP hw hK
    obtain ⟨hz, hTI, ⟨x0, y0, hTO⟩, h1, h2⟩ := st
    obtain ⟨xs, ys, hqx, hqy, hend⟩ := hg
    obtain ⟨its, rv, hB1⟩ := sqB_at I hqx
    obtain ⟨its2, rv2, hB2⟩ := sqB_at I hqy
    have l1 := rv.length
    have l2 := rv2.length
    obtain ⟨oi1, hoi1, _, na1, na2, _⟩ := itB_obj h1
    obtain ⟨oi2, hoi2, _, nb1, nb2, _⟩ := itB_obj h2
    have S := zipSep D hz hB1 hB2 h1 h2 (sqB_free I hqx (hf TO (by simp))) (sqB_free I hqy (hf TO (by simp)))
    have sz1 : its.toArray.size = xs.length := by simp [l1]
    have sz2 : its2.toArray.size = ys.length := by simp [l2]
    refine wpAny_pyNext_zipD2_end S (drawsB t (A := X.A.in1) (I.ok.hd hc) i1 a (isB_ne hB1 hoi1 na1 na2) its.toArray) (drawsB u (A := X.A.in1) (I.ok.hd hc) i2 b (isB_ne hB2 hoi2 nb1 nb2) its2.toArray) hz hTI hTO ⟨h1, hB1⟩ ⟨h2, hB2⟩ (by rw [sz1]; omega) (by rw [sz2]; omega) (by rw [sz1, sz2]; omega) fun h' tk hk => ?_
    exact ⟨rfl, I.turnedL (ch := [z, TI, TO, i1, i2]) (fun c o hb q => by
      have hb' : c ≠ z ∧ c ≠ TI ∧ c ≠ TO ∧ c ≠ i1 ∧ c ≠ i2 := by simpa using hb
      exact hk c o hb'.1 hb'.2.2.1 hb'.2.2.2.1 hb'.2.2.2.2 q) hf⟩
  self := fun A i s Q E st h => wpAny_pyIter_zip st.1 h
def iZipB (K : PySem.W.Frag) (ta : TA) : TI := fun σ H R => ta σ H fun vs H1 => ∃ t u a b xs ys, vs = [.ref a, .ref b] ∧ SqB K t H1 a xs ∧ SqB K u H1 b ys ∧ R (ItzB K t u a b) H1
theorem pi_zipB {X : Cx} {e e2 : Expr} {ta : TA} {p pos tpos : Pos} {elts : List Expr} {kk : Nat} (hg : Gl X "zip") (hm : X.mg "zip" = none) (ha : PA X [e, e2] ta)
    (hs : starEach [e, e2] X.env = (false, eval e X.env) :: starEach [e2] X.env := by rfl) (hpl : (backTo pos (starEach [e2] X.env)).any (·.1) = false := by rfl) :
    PI X (.Tuple elts kk tpos) (.Call (.Name "zip" p) [e, e2] [] pos) (iZipB X.K ta) := by
  refine ⟨fun pins s σ H R I hyp => ?_⟩
  refine Call_ (ld_blt I hg hm PyProof.Rows.boot_zip (PyProof.Rows.callWith_type1 (thn (ha.run pos pins s σ H _ I hyp) fun us s1 ⟨vs, H1, I1, rvs, t, u, a, b, xs, ys, ex, hqx, hqy, hR⟩ => ?_) hs hpl))
  subst ex
  cases rvs with
  | cons r0 rest =>
    cases rest with
    | cons r1 rest =>
      cases rest
      cases r0
      cases r1
      obtain ⟨its, rv, hB1⟩ := sqB_at I1 hqx
      obtain ⟨its2, rv2, hB2⟩ := sqB_at I1 hqy
      refine zip_begins2 (beginsB t a its.toArray) (beginsB u b its2.toArray) hB1 hB2 fun h' hz hTI hTO h1 h2 hsz hk => wpAny_pyIter_zip hz ?_
      generalize hn : s1.heap.objs.size = n at *
      refine ⟨n + 4, [n + 4, n + 2, n + 3, n, n + 1], _, _, H1, rfl, I1.kept (t' := s1.toks) hk, turn_zipB ⟨addne (n := n) (a := 2) (b := 4) (by decide), addne (n := n) (a := 3) (b := 4) (by decide), addne (n := n) (a := 2) (b := 3) (by decide), addne (n := n) (a := 2) (b := 0) (by decide), addne (n := n) (a := 2) (b := 1) (by decide), addne (n := n) (a := 4) (b := 0) (by decide), addne (n := n) (a := 4) (b := 1) (by decide), addne (n := n) (a := 3) (b := 0) (by decide), addne (n := n) (a := 3) (b := 1) (by decide), addne (n := n) (a := 0) (b := 1) (by decide)⟩, ⟨hz, hTI, ⟨_, _, hTO⟩, itB_new h1, itB_new h2⟩, fun c hcm => ?_, hR⟩
      have hle : s1.heap.objs.size ≤ c := by
        rcases (show c = n + 4 ∨ c = n + 2 ∨ c = n + 3 ∨ c = n ∨ c = n + 1 by simpa using hcm) with q | q | q | q | q <;> (rw [hn, q]; first | exact Nat.le_add_right _ _ | exact Nat.le_refl _)
      exact I1.fpOk hle (I1.hok.fresh hle)

/-! ### for x in a list or a tuple -/
theorem pi_seqY {X : Cx} {tg l : Expr} {tl : TE} (hl : PE X l tl) : PI X tg l (iSeqY X.K tl) := by
  refine ⟨fun pins s σ H R I hyp => ?_⟩
  refine thn (hl.run pins s σ H _ I hyp) fun v s1 ⟨x, H1, I1, rx, a, ex, q⟩ => ?_
  subst ex
  cases rx
  have fresh : ∀ b, b ∈ [s1.heap.objs.size] → FpOk X pins H1 b := fun b hb => by
    have hb' : b = s1.heap.objs.size := by simpa using hb
    subst hb'
    exact I1.fpOk (Nat.le_refl _) (I1.hok.fresh (Nat.le_refl _))
  rcases q with ⟨⟨xs, hq⟩, hR⟩ | ⟨⟨xs, hq⟩, hR⟩
  · obtain ⟨its, rv, pl, _⟩ := I1.list hq
    exact wpAny_pyIter_list pl.isList ⟨_, [s1.heap.objs.size], _, _, H1, rfl, I1.kept (t' := s1.toks) fun b o e => Heap.get?_push_of_some _ e, turn_list a _, ⟨_, Heap.get?_push_size _ rfl, rfl, rfl⟩, fresh, hR⟩
  · obtain ⟨its, rv, pl, _⟩ := I1.tuple hq
    exact wpAny_pyIter_tuple (show s1.heap.IsTuple a its.toArray from pl) ⟨_, [s1.heap.objs.size], _, _, H1, rfl, I1.kept (t' := s1.toks) fun b o e => Heap.get?_push_of_some _ e, turn_tuple a _, ⟨_, Heap.get?_push_size _ rfl, rfl, rfl⟩, fresh, hR⟩
end Y

/-! Y: sorted of pairs of texts, of a dict's values; remove of a text; dicts that are locked: len, ==, items. -/
namespace Y
open PySem PySem.Spec PyProof.Rows L2

/-! ### the order of texts -/
def sl (a b : Str) : Bool := decide (a.cps.toList < b.cps.toList)
theorem sl_ltCps (a b : Str) : sl a b = ltCps a.cps.toList b.cps.toList := (ltCps_eq _ _).symm
theorem strExt {a b : Str} (h : a.cps.toList = b.cps.toList) : a = b := by
  obtain ⟨⟨x⟩⟩ := a
  obtain ⟨⟨y⟩⟩ := b
  simp at h
  rw [h]
theorem ltCps_irr : ∀ l : List Nat, ltCps l l = false
  | [] => rfl
  | a :: r => by simp [ltCps, ltCps_irr r]
theorem ltCps_asym : ∀ a b : List Nat, ltCps a b = true → ltCps b a = false
  | [], [], h => by simp [ltCps] at h
  | [], _ :: _, _ => rfl
  | _ :: _, [], h => by simp [ltCps] at h
  | a :: r, b :: t, h => by
    simp only [ltCps, Bool.or_eq_true, decide_eq_true_eq, Bool.and_eq_true, beq_iff_eq] at h
    simp only [ltCps, Bool.or_eq_false_iff, decide_eq_false_iff_not, Bool.and_eq_false_iff, beq_eq_false_iff_ne]
    rcases h with h | ⟨h1, h2⟩
    · exact ⟨by omega, .inl (by omega)⟩
    · exact ⟨by omega, .inr (ltCps_asym r t h2)⟩
theorem ltCps_tot : ∀ a b : List Nat, ltCps a b = false → ltCps b a = false → a = b
  | [], [], _, _ => rfl
  | [], _ :: _, h, _ => by simp [ltCps] at h
  | _ :: _, [], _, h => by simp [ltCps] at h
  | a :: r, b :: t, h, g => by
    simp only [ltCps, Bool.or_eq_false_iff, decide_eq_false_iff_not, Bool.and_eq_false_iff, beq_eq_false_iff_ne] at h g
    have e : a = b := by omega
    subst e
    have h2 : ltCps r t = false := by rcases h.2 with z | z <;> first | exact absurd rfl z | exact z
    have g2 : ltCps t r = false := by rcases g.2 with z | z <;> first | exact absurd rfl z | exact z
    rw [ltCps_tot r t h2 g2]
theorem ltCps_tr : ∀ a b c : List Nat, ltCps b a = false → ltCps c b = false → ltCps c a = false
  | a, b, [], h, g => by
    cases b with
    | nil => exact h
    | cons _ _ => simp [ltCps] at g
  | [], b, c :: r, h, g => rfl
  | a :: r, [], c :: t, h, g => by simp [ltCps] at h
  | a :: r, b :: u, c :: t, h, g => by
    simp only [ltCps, Bool.or_eq_false_iff, decide_eq_false_iff_not, Bool.and_eq_false_iff, beq_eq_false_iff_ne] at h g ⊢
    refine ⟨by omega, ?_⟩
    by_cases e : c = a
    · right
      have e1 : b = a := by omega
      have h2 : ltCps u r = false := by rcases h.2 with z | z <;> first | exact absurd e1 z | exact z
      have g2 : ltCps t u = false := by rcases g.2 with z | z <;> first | exact absurd (by omega) z | exact z
      exact ltCps_tr r u t h2 g2
    · exact .inl e
theorem sl_irr (a : Str) : sl a a = false := by rw [sl_ltCps]; exact ltCps_irr _
theorem sl_asym {a b : Str} (h : sl a b = true) : sl b a = false := by rw [sl_ltCps] at h ⊢; exact ltCps_asym _ _ h
theorem sl_tot {a b : Str} (h : sl a b = false) (g : sl b a = false) : a = b := by rw [sl_ltCps] at h g; exact strExt (ltCps_tot _ _ h g)
theorem sl_tr {a b c : Str} (h : sl b a = false) (g : sl c b = false) : sl c a = false := by rw [sl_ltCps] at h g ⊢; exact ltCps_tr _ _ _ h g
/-- pairs: by the first, then by the second -/
def sl2 (p q : Str × Str) : Bool := if p.1 = q.1 then sl p.2 q.2 else sl p.1 q.1
theorem sl2_swo {α : Type} (k : α → Str × Str) : SrtO.Swo fun v u => sl2 (k v) (k u) := by
  refine ⟨fun x y h => ?_, fun x y z h1 h2 => ?_⟩
  · unfold sl2 at h ⊢
    by_cases e : (k x).1 = (k y).1
    · rw [if_pos e] at h; rw [if_pos e.symm]; exact sl_asym h
    · rw [if_neg e] at h; rw [if_neg (fun q => e q.symm)]; exact sl_asym h
  · unfold sl2 at h1 h2 ⊢
    by_cases e1 : (k y).1 = (k x).1
    · rw [if_pos e1] at h1
      by_cases e2 : (k z).1 = (k y).1
      · rw [if_pos e2] at h2; rw [if_pos (e2.trans e1)]; exact sl_tr h1 h2
      · rw [if_neg e2] at h2; rw [if_neg (fun q => e2 (q.trans e1.symm)), ← e1]; exact h2
    · rw [if_neg e1] at h1
      by_cases e2 : (k z).1 = (k y).1
      · rw [if_neg (fun q => e1 (e2.symm.trans q)), e2]; exact h1
      · rw [if_neg e2] at h2
        by_cases e3 : (k z).1 = (k x).1
        · have a1 : sl (k y).1 (k x).1 = false := h1
          have a2 : sl (k x).1 (k y).1 = false := e3 ▸ h2
          exact absurd (sl_tot a1 a2) e1
        · rw [if_neg e3]; exact sl_tr h1 h2

/-! ### sorted of pairs of texts -/
def PairS (h : Heap) (v : Value) (p : Str × Str) : Prop := ∃ a o t u n, v = .ref a ∧ h.get? a = some o ∧ o.cls = .type "tuple" ∧ o.data = .seq #[.str p.1 t, .str p.2 u] n
theorem PairS.keeps {h h' : Heap} {v : Value} {p : Str × Str} (x : PairS h v p) (k : ∀ b o, h.get? b = some o → o.cls = .type "tuple" → h'.get? b = some o) : PairS h' v p := by
  obtain ⟨a, o, t, u, n, e, ho, hc, hd⟩ := x
  exact ⟨a, o, t, u, n, e, k a o ho hc, hc, hd⟩
section
variable {prog : Program} {w : World} {A : Around} {s : Shared}
theorem pairS_cmp {vs : List Value} {k : Value → Str × Str} (hp : ∀ v ∈ vs, PairS s.heap v (k v)) : SrtO.Cmp prog w A s (tuples' true) (fun p => p.1 ∈ vs) (SrtO.lt2 fun v u => sl2 (k v) (k u)) := by
  intro p q hm hm'
  obtain ⟨a, o, t, u, n, e, ho, hc, hd⟩ := hp _ hm
  obtain ⟨a', o', t', u', n', e', ho', hc', hd'⟩ := hp _ hm'
  show wpAny (model prog w) A (keyLt' (tuples' true) p.1 q.1) (fun r s' => s' = s ∧ r = sl2 (k p.1) (k q.1)) (fun _ _ => False) s
  generalize k p.1 = x at hd ⊢
  generalize k q.1 = y at hd' ⊢
  obtain ⟨x1, x2⟩ := x
  obtain ⟨y1, y2⟩ := y
  rw [e, e']
  refine PySem.W.kat_lt ho hd ho' hd' ?_
  show PySem.W.KatLex prog w A true (decide (2 < 2)) _ [(.str x1 t, .str y1 t'), (.str x2 u, .str y2 u')] 0 s
  refine PySem.W.kat_cons (SeqAt.EqAt.str_str x1 t y1 t' prog w _ _ ?_)
  refine PySem.W.kat_go (fun e1 => ?_) (fun e1 => ?_)
  · have ex : x1 = y1 := by simpa using e1
    refine PySem.W.kat_yes (PySem.W.kat_cons (SeqAt.EqAt.str_str x2 u y2 u' prog w _ _ ?_))
    refine PySem.W.kat_go (fun e2 => ?_) (fun e2 => ?_)
    · have ey : x2 = y2 := by simpa using e2
      refine PySem.W.kat_yes (PySem.W.kat_nil ⟨rfl, ?_⟩)
      unfold sl2
      rw [if_pos ex, ey, sl_irr]; rfl
    · refine PySem.W.kat_no (PySem.W.kat_one _ _ (PyProof.Rows.lt_str ?_))
      refine (show s = s ∧ decide (x2.cps.toList < y2.cps.toList) = sl2 (x1, x2) (y1, y2) from ⟨rfl, ?_⟩)
      unfold sl2
      rw [if_pos ex]; rfl
  · have ex : ¬ x1 = y1 := by simpa using e1
    refine PySem.W.kat_no (oneLt_str ⟨rfl, ?_⟩)
    unfold sl2
    rw [if_neg ex]; rfl
theorem pairS_firsts {h : Heap} {k : Value → Str × Str} : ∀ {vs : List Value}, (∀ v ∈ vs, PairS h v (k v)) → ∃ fs : List Value, PySem.W.KatTups h vs fs ∧ fs.length = vs.length ∧ ∀ f ∈ fs, ∃ x t, f = Value.str x t
  | [], _ => ⟨[], PySem.W.KatTups.nil, rfl, fun _ hm => absurd hm (by simp)⟩
  | v :: vs, hp => by
    obtain ⟨fs, h1, h2, h3⟩ := pairS_firsts (vs := vs) fun z hm => hp z (List.mem_cons_of_mem _ hm)
    obtain ⟨a, o, t, u, n, e, ho, hc, hd⟩ := hp v List.mem_cons_self
    rw [e]
    refine ⟨.str _ t :: fs, PySem.W.KatTups.cons ho hc hd rfl h1, by simp [h2], fun f hm => ?_⟩
    rcases List.mem_cons.mp hm with z | z
    · exact ⟨_, t, z⟩
    · exact h3 f z
theorem pairS_sortable {a : Addr} {vs : List Value} {k : Value → Str × Str} (h0 : 0 < vs.length) (hp : ∀ v ∈ vs, PairS s.heap v (k v)) (ha : ∀ o, s.heap.get? a = some o → o.cls ≠ .type "tuple") : SrtO.SortableO prog w A s a vs fun v u => sl2 (k v) (k u) := by
  intro h' keep
  have hp' : ∀ v ∈ vs, PairS h' v (k v) := fun v hm => (hp v hm).keeps fun b o e c => keep b o (fun z => by rw [z] at e; exact ha o e c) e
  obtain ⟨fs, h1, h2, h3⟩ := pairS_firsts hp'
  refine ⟨tuples' true, fun Q E hq => ?_, pairS_cmp hp'⟩
  refine PySem.W.kat_kind (T := .type "str") h1 (by omega) (fun f hm => ?_) (by rfl) ?_
  · obtain ⟨x, t, rfl⟩ := h3 f hm
    exact PySem.W.Looks.now
  · rw [show (Value.type "str" != Value.type "tuple") = true by decide +kernel]
    exact hq
end
/-- a list of pairs of texts -/
def rSortedPS (K : PySem.W.Frag) : List V → Hp → VK → Prop := fun vs H Q => ∃ (a : Addr) (xs : List V) (k : V → Str × Str), vs = [V.ref a] ∧ SqL K H a xs ∧ (∀ x ∈ xs, ∃ t, x = V.ref t ∧ SqT K H t [.str (k x).1, .str (k x).2]) ∧
  ∀ ys p, ys.Perm xs → ys.Pairwise (fun x y => sl2 (k y) (k x) = false) → H p = none → Q (.ref p) (upd H p (.lst ys))
theorem cr_sortedPS {X : Cx} : CallR X (.builtin "sorted") (rSortedPS X.K) := by
  intro pins s σ H vs us Q I r hyp
  obtain ⟨a, xs, k, rfl, hs, hx, q⟩ := hyp
  obtain ⟨its, rv, hl, hz⟩ := I.list hs
  obtain ⟨u, rfl, ru⟩ := vals1 r
  obtain rfl : u = Value.ref a := ru
  obtain ⟨e1, e2⟩ := refs_back rv fun x m => (hx x m).elim fun t ht => ⟨t, ht.1⟩
  have hz' : its.length ≤ sizeLine := by rw [← rv.length]; exact hz
  have hp : ∀ v ∈ its, PairS s.heap v (k (backV v)) := fun v hv => by
    obtain ⟨t, rfl⟩ := e2 v hv
    have hm : V.ref t ∈ xs := by rw [e1]; exact List.mem_map.mpr ⟨_, hv, rfl⟩
    obtain ⟨t', e, ht⟩ := hx _ hm
    cases e
    obtain ⟨its2, r2, ⟨o, ho, hc, n, hd⟩, _⟩ := I.tuple ht
    obtain ⟨u1, u2, rfl, ⟨t1, rfl⟩, ⟨t2, rfl⟩⟩ := vals2 r2
    exact ⟨t, o, t1, t2, n, rfl, ho, hc, hd⟩
  refine SrtO.sorted_ord (sl2_swo fun u => k (backV u)) hl.isList hz' (fun h2 h₁ b hb kk => ?_) fun out hso hst => ?_
  · refine pairS_sortable (s := { s with heap := h₁ }) (by omega) (fun v hm => (hp v hm).keeps fun c o e _ => (kk c o e).2) fun o e => ?_
    rw [hb] at e
    cases e
    exact (show Value.type "list" ≠ .type "tuple" by decide +kernel)
  · have h3 : ∀ u ∈ out, ∃ a, u = Value.ref a := fun u hu => e2 u (hst.perm.mem_iff.mp hu)
    have hfr := I.hok.fresh (a := s.heap.objs.size + 1) (Nat.le_succ _)
    have hn := sortedAll_at s.heap its out.toArray
    obtain ⟨n, hn⟩ := hn
    have hpm : (out.map backV).Perm xs := by rw [e1]; exact hst.perm.map backV
    have hlen : (out.map backV).length ≤ sizeLine := by rw [hpm.length_eq]; exact hz
    exact ⟨.ref (s.heap.objs.size + 1), upd H (s.heap.objs.size + 1) (.lst (out.map backV)), I.laid (t' := s.toks) (fun b o e => sortedAll_old e) (Nat.le_succ _) ⟨hlen, out, n, vals_back h3, hn⟩, rfl,
      q _ _ hpm (List.pairwise_map.mpr hso) hfr⟩

/-! ### remove of a text -/
def isS (k : Str) (v : Value) : Bool := match v with
  | .str n _ => n == k
  | _ => false
def rRemS : V → List V → Hp → VK → Prop := fun x xs H Q => ∃ (l : Addr) (ns : List Str) (k : Str) (j : Nat), x = .ref l ∧ xs = [.str k] ∧ H l = some (.lst (ns.map V.str)) ∧ ns[j]? = some k ∧ (∀ m : Nat, m < j → ns[m]? ≠ some k) ∧ Q .non (upd H l (.lst ((ns.eraseIdx j).map V.str)))
theorem eraseS : ∀ (l : List Str) (j : Nat), (l.map V.str).eraseIdx j = (l.eraseIdx j).map V.str
  | [], j => by simp
  | a :: r, 0 => by simp
  | a :: r, j + 1 => by simp [eraseS r j]
theorem valS {us : List Value} {ns : List Str} (r : Vals (ns.map V.str) us) {m : Nat} {x : Str} (h : ns[m]? = some x) : ∃ t, us[m]? = some (.str x t) := by
  obtain ⟨u, hu, t, e⟩ := r.get (i := m) (x := V.str x) (by rw [List.getElem?_map, h]; rfl)
  exact ⟨t, by rw [hu, e]⟩
theorem mt_removeS {X : Cx} : MtM X "list.remove" rRemS := by
  intro pins s σ H x xs v us Q I rx rxs hyp
  obtain ⟨l, ns, k, j, rfl, rfl, hH, hj, hno, q⟩ := hyp
  cases rx
  obtain ⟨u, rfl, t, rfl⟩ := rxs.one
  obtain ⟨z, its, n, r, hl, e⟩ := I.lstM hH
  rw [List.length_map] at hl z
  have hjn : j < ns.length := (List.getElem?_eq_some_iff.mp hj).1
  have eqs : ∀ y, y ∈ its.toArray → MeetsSeq.EqGives y (.str k t) (isS k y) := fun y hy => by
    have hy' : y ∈ its := by simpa using hy
    obtain ⟨m, hm, ey⟩ := List.getElem_of_mem hy'
    have hmn : m < ns.length := by omega
    obtain ⟨tm, hmt⟩ := valS r (List.getElem?_eq_getElem hmn)
    rw [List.getElem?_eq_getElem hm, ey] at hmt
    rw [Option.some.inj hmt]
    exact fun _ _ _ _ _ _ hq => wpAny_eqBool_str (by rw [show isS k (.str ns[m] tm) = (ns[m] == k) from rfl, ← Bool.beq_eq_decide_eq] at *; exact hq)
  refine call_meets PySem.F.slot_list_remove ⟨_, e, rfl⟩ PySem.F.entry_list_remove (PySem.F.args_list_remove_2 _ _)
    (MeetsSeq.list_remove l its.toArray n (.str k t) (isS k) eqs j (by rw [List.size_toArray]; omega) ?_ ?_ (by rw [List.size_toArray]; omega)) ⟨e, ?_⟩
  · obtain ⟨tj, hjt⟩ := valS r hj
    obtain ⟨h1, h2⟩ := List.getElem?_eq_some_iff.mp hjt
    rw [show its.toArray[j] = .str k tj by simpa using h2]
    exact beq_self_eq_true k
  · intro m hm hmj
    have hmn : m < ns.length := by omega
    obtain ⟨tm, hmt⟩ := valS r (List.getElem?_eq_getElem hmn)
    obtain ⟨h1, h2⟩ := List.getElem?_eq_some_iff.mp hmt
    rw [show its.toArray[m] = .str ns[m] tm by simpa using h2]
    exact beq_eq_false_iff_ne.mpr fun e2 => hno m hmj (by rw [List.getElem?_eq_getElem hmn, e2])
  · have rr := r.eraseIdx j
    rw [eraseS] at rr
    refine ⟨.non, _, I.lset (its' := its.eraseIdx j) (t' := s.toks) hH e ?_ rr ?_, rfl, q⟩
    · exact (show its.toArray.eraseIdxIfInBounds j = (its.eraseIdx j).toArray by rw [List.eraseIdxIfInBounds_toArray])
    · have z2 : (ns.eraseIdx j).length ≤ ns.length := by rw [List.length_eraseIdx]; split <;> omega
      rw [List.length_map]; omega

/-! ### dicts that may be locked -/
section
variable {X : Cx}
theorem call_lenR : CallR X (.builtin "len") (fun xs H Q => ∃ a kvs, xs = [V.ref a] ∧ Rd H a (.dK kvs) ∧ Q (.int kvs.length) H) := by
  intro pins s σ H xs us Q I r hyp
  obtain ⟨a, kvs, rfl, ha, q⟩ := hyp
  obtain ⟨u, rfl, ru⟩ := vals1 r
  cases ru
  exact d_len I ha fun t s' I' => ⟨.int kvs.length, H, I', ⟨t, rfl⟩, q⟩
/-- two dicts that hold the same -/
def rEqDR : R2 := fun x y H Q => ∃ a b ks ls, x = .ref a ∧ y = .ref b ∧ Rd H a (.dK ks) ∧ Rd H b (.dK ls) ∧ ks.length = ls.length ∧ (∀ p ∈ ks, valV ls p.1 = some p.2 ∧ flatB p.2 = true) ∧ Q (.bl true) H
theorem op_eqDR (hu : X.A.units < cLine) : OpR X (compareOp .Eq) rEqDR := by
  intro pins s σ H x y v u Q I rx ry hyp
  obtain ⟨a, b, ks, ls, rfl, rfl, ea, eb, hlen, hp, q⟩ := hyp
  obtain rfl : v = Value.ref a := rx
  obtain rfl : u = Value.ref b := ry
  obtain ⟨_, ya, va, ra, da⟩ := dk_rd I.hok ea
  obtain ⟨_, yb, vb, rb, db⟩ := dk_rd I.hok eb
  exact PySem.W.keq_eq (knd := mixKind X.prog X.w) (r := true) ya yb da db hu (fun _ => hits_all rb ra hp) (fin_bl I q (by simp [← ra.length, ← rb.length, hlen]))
end
end Y

/-! Y: sorted(d.values()), list(d.items()) of dicts that may be locked. -/
namespace Y
open PySem PySem.Spec PyProof.Rows L2
section
variable {X : Cx} {e : Expr} {te : TE} {p apos cpos pos : Pos}
/-- sorted(d.values()), texts, fewer than 64 -/
def tSortedVals (te : TE) : TE := fun σ H Q => te σ H fun x H1 => ∃ (d : Addr) (ps : List (Key × V)) (ss : List Str), x = .ref d ∧ Rd H1 d (.dK ps) ∧ ps.map (·.2) = ss.map V.str ∧ ss.length < 64 ∧
  ∀ ys q, ys.Perm ss → sortedS ys = true → H1 q = none → Q (.ref q) (upd H1 q (.lst (ys.map V.str)))
theorem KV.vals {ps : List (Key × V)} {vs : List (Key × Value)} (kv : KV ps vs) {j : Nat} {k : Key} {u : Value} (h : vs[j]? = some (k, u)) : ∃ x, ps[j]? = some (k, x) ∧ RelV x u := by
  unfold KV at kv
  induction kv generalizing j with
  | nil => simp at h
  | @cons a b as bs r t ih =>
    cases j with
    | zero =>
      simp at h
      subst h
      obtain ⟨a1, a2⟩ := a
      obtain ⟨r1, r2⟩ := r
      have r1' : a1 = k := r1
      subst r1'
      exact ⟨a2, rfl, r2⟩
    | succ j => simpa using ih (by simpa using h)
theorem pe_sortedVals (hc : X.calm = true) (he : PE X e te) (hg : Gl X "sorted") (hm : X.mg "sorted" = none) (hbase : attributeBase e "values" X.env (eval e X.env) = eval e X.env := by rfl) (hline : (apos.endLine == cpos.line) = true := by rfl)
    (hs : starEach [.Call (.Attribute e "values" apos) [] [] cpos] X.env = (false, eval (.Call (.Attribute e "values" apos) [] [] cpos) X.env) :: starEach [] X.env := by rfl) :
    PE X (.Call (.Name "sorted" p) [.Call (.Attribute e "values" apos) [] [] cpos] [] pos) (tSortedVals te) := by
  refine ⟨fun pins s σ H Q I hyp => ?_⟩
  refine wpAny_Call_Name_kw (ld_blt I hg hm (by decide +kernel : bootBuiltins "sorted" = some (.builtin "sorted")) ?_)
  refine PyProof.Rows.callWith_builtin1 ?_ hs rfl
  rw [hs]
  show wpAny _ _ (spliced ((false, eval (.Call (.Attribute e "values" apos) [] [] cpos) X.env) :: backTo pos (starEach [] X.env))) _ _ s
  refine Calls.spliced_cons ?_
  refine wpAny_Call_method (T := "dict") (id := "dict.values") hbase rfl hline F.plainAttrs_dict F.slot_dict_values F.type_dict_values (thn (he.run pins s σ H _ I hyp) fun u s1 ⟨x, H1, I1, rx, d, ps, ss, ex, hd, hps, h64, q⟩ => ?_)
  subst ex
  obtain rfl : u = Value.ref d := rx
  obtain ⟨hz, hs0, vs, kv, hdo⟩ := dk_rd I1.hok hd
  obtain ⟨ep, hat⟩ := hdo.dictAt
  have lk : ps.length = vs.length := Paired.length kv
  have ls : ps.length = ss.length := by have z := congrArg List.length hps; simpa using z
  refine ⟨hdo.typeIs, hdo.mapOf.noDict, ?_⟩
  show wpAny _ _ (callWith cpos (.builtin "dict.values") [.ref d] [] []) _ X.xe s1
  refine method_meetsIn F.slot_dict_values F.entry_dict_values rfl (PySem.evalArgs_none ⟨rfl, hdo.typeIs, F.args_dict_values_1 _, _, meets_dict_values (mixKind X.prog X.w) d hs0, ⟨vs, hdo⟩, ?_⟩)
  refine Calls.spliced_nil ?_
  have I2 : Inv X pins σ H1 { s1 with heap := s1.heap.push { cls := .type "dict_values", data := .fields #[.ref d] } } := I1.kept (t' := s1.toks) fun b ob z => Heap.get?_push_of_some _ z
  refine Calls.call_function_entry PyProof.Rows.kind_sorted PyProof.Rows.plain_sorted PyProof.Rows.entry_sorted (PyProof.Rows.args_sorted1 _) ?_
  unfold Builtin.«sorted»
  refine wpAny_bind (m := checkCount "sorted" 1 1 _) (wpAny_pure ?_)
  refine wpAny_bind (PySem.W.kdu_collect (A := X.A.in1) (PySem.W.kdl_values (knd := mixKind X.prog X.w) (r := s1.heap.objs.size) (d := d) (kvs := vs) (ep := ep)) (I1.ok.hd hc) ⟨⟨_, Heap.get?_push_size _ rfl, rfl, rfl⟩, hat.push _⟩ (by omega) fun h' tk acc hk hacc => ?_)
  have hal : acc.toList.length = ss.length := by rw [Array.length_toList, hacc.1]; omega
  have hS : StrsAre acc.toList ss := strs_at hal fun j v ev => by
    obtain ⟨k, ek⟩ := hacc.2 j v (by rw [← Array.getElem?_toList]; exact ev)
    obtain ⟨y, ey, ry⟩ := KV.vals kv ek
    have e3 : (ps.map (·.2))[j]? = some y := by rw [List.getElem?_map, ey]; rfl
    rw [hps, List.getElem?_map] at e3
    cases e4 : ss[j]? with
    | none => rw [e4] at e3; cases e3
    | some z =>
      rw [e4] at e3
      have e5 : V.str z = y := Option.some.inj e3
      subst e5
      obtain ⟨t, et⟩ := ry
      exact ⟨z, t, rfl, et⟩
  have I3 : Inv X pins σ H1 { s1 with heap := h', toks := tk } := I2.kept hk
  refine wpAny_bind (wpAny_newList ?_ (by rw [hal, sizeLine_eq]; omega))
  have hoL : (h'.push (seqObj "list" acc.toList.toArray 0)).get? h'.objs.size = some (seqObj "list" acc.toList.toArray 0) := Heap.get?_push_size _ rfl
  show wpAny _ _ _ _ _ { s1 with heap := h'.push (seqObj "list" acc.toList.toArray 0), toks := tk }
  refine wpAny_bind (wpAny_holding (wpAny_call_entry PyProof.Rows.slot_list_sort ⟨_, hoL, rfl⟩ PyProof.Rows.entry_list_sort
    (list_sort_treeK strKind_oneLt (s := { s1 with heap := h'.push (seqObj "list" acc.toList.toArray 0), toks := tk }) hoL hS.keysOf (fun v₁ v₂ rest ez => keyKind_strs (by rw [← ez]; exact hS)) (by rw [hal]; exact h64) fun st' hp hsr => ⟨_, rfl, ?_⟩)
    (PyProof.Rows.args_list_sort _)))
  obtain ⟨ys, g1, g2, g3⟩ := sorted_out_str hS hp hsr
  obtain ⟨e', he'⟩ := PyProof.Rows.sortedHeap_at (vs := acc.toList) (out := (arrOf st').map (·.2)) hoL
  have hlen : (ys.map V.str).length ≤ sizeLine := by
    rw [List.length_map, g2.length_eq]
    exact Nat.le_trans (Nat.le_of_lt h64) (by decide)
  have old : ∀ b u, h'.get? b = some u → (sortedHeap (h'.push (seqObj "list" acc.toList.toArray 0)) h'.objs.size acc.toList (Array.map (fun x => x.snd) (arrOf st'))).get? b = some u := fun b u ez =>
    (PyProof.Rows.sortedHeap_old (Nat.ne_of_lt (Heap.lt_size ez)) (by rw [size_push']; exact Nat.lt_succ_of_lt (Heap.lt_size ez))).trans (Heap.get?_push_of_some _ ez)
  exact wpAny_pure ⟨_, rfl, .ref h'.objs.size, upd H1 h'.objs.size (.lst (ys.map V.str)), I3.laid (t' := tk) (fun b u ez => old b u ez) (Nat.le_refl _)
    (show ObjOk X.prog X.w _ _ _ (.lst (ys.map V.str)) from ⟨hlen, ((arrOf st').map (·.2)).toList, e', vals_of_strs g1, by rw [Array.toArray_toList]; exact he'⟩), rfl, q ys _ g2 g3 (I3.hok.fresh (Nat.le_refl _))⟩
/-- list(d.items()): new pairs in a new list -/
def tItemsR (te : TE) : TE := fun σ H Q => te σ H fun x H1 => ∃ (d : Addr) (kvs : List (Key × V)), x = .ref d ∧ Rd H1 d (.dK kvs) ∧
  ∀ (H' : Hp) (p : Addr) (ts : List Addr), (∀ b o, H1 b = some o → H' b = some o) → H1 p = none → (∀ t ∈ ts, H1 t = none) → p ∉ ts → H' p = some (.lst (ts.map V.ref)) → Paired (fun (t : Addr) (q : Key × V) => H' t = some (.tup [kV q.1, q.2])) ts kvs → Q (.ref p) H'
theorem pe_itemsR (hc : X.calm = true) (he : PE X e te) (hg : Gl X "list") (hm : X.mg "list" = none) (hbase : attributeBase e "items" X.env (eval e X.env) = eval e X.env := by rfl) (hline : (apos.endLine == cpos.line) = true := by rfl)
    (hs : starEach [.Call (.Attribute e "items" apos) [] [] cpos] X.env = (false, eval (.Call (.Attribute e "items" apos) [] [] cpos) X.env) :: starEach [] X.env := by rfl) :
    PE X (.Call (.Name "list" p) [.Call (.Attribute e "items" apos) [] [] cpos] [] pos) (tItemsR te) := by
  refine ⟨fun pins s σ H Q I hyp => ?_⟩
  refine wpAny_Call_Name_kw (ld_blt I hg hm (by decide +kernel : bootBuiltins "list" = some (.type "list")) ?_)
  refine PyProof.Rows.callWith_type1 ?_ hs rfl
  rw [hs]
  show wpAny _ _ (spliced ((false, eval (.Call (.Attribute e "items" apos) [] [] cpos) X.env) :: backTo pos (starEach [] X.env))) _ _ s
  refine Calls.spliced_cons ?_
  refine wpAny_Call_method (T := "dict") (id := "dict.items") hbase rfl hline F.plainAttrs_dict F.slot_dict_items F.type_dict_items (thn (he.run pins s σ H _ I hyp) fun u s1 ⟨x, H1, I1, rx, d, kvs, ex, hd, q⟩ => ?_)
  subst ex
  obtain rfl : u = Value.ref d := rx
  obtain ⟨hz, hs0, vs, kv, hdo⟩ := dk_rd I1.hok hd
  obtain ⟨ep, hat⟩ := hdo.dictAt
  have lk : kvs.length = vs.length := Paired.length kv
  have I2 : Inv X pins σ H1 { s1 with heap := s1.heap.push { cls := .type "dict_items", data := .fields #[.ref d] } } := I1.kept (t' := s1.toks) fun b ob z => Heap.get?_push_of_some _ z
  refine ⟨hdo.typeIs, hdo.mapOf.noDict, ?_⟩
  show wpAny _ _ (callWith cpos (.builtin "dict.items") [.ref d] [] []) _ X.xe s1
  refine method_meetsIn F.slot_dict_items F.entry_dict_items rfl (PySem.evalArgs_none ⟨rfl, hdo.typeIs, F.args_dict_items_1 _, _, meets_dict_items (mixKind X.prog X.w) d hs0, ⟨vs, hdo⟩, ?_⟩)
  refine Calls.spliced_nil (PySem.W.kdx_call (knd := mixKind X.prog X.w) (kvs := vs) (ep := ep) (I1.ok.hd hc) ⟨_, Heap.get?_push_size _ rfl, rfl, rfl⟩ (hat.push _) (by omega) fun h' tk acc c as hk hS hl hG hacc => ?_)
  obtain ⟨H', k1, k2, k3, k4, k5, k6, J⟩ := LiI.items_laid (tk := tk) I2 hz kv hk hS hl hG hacc
  exact ⟨.ref _, H', J, rfl, q H' _ as k1 k2 k3 k4 k5 k6⟩
end

variable {K : PySem.W.Frag}
section
variable {Γ : GG} {O : OO} {te ta tb tc : TE} {tt tu : TT} {P : Sl → OO → Prop} {PB : Bool → OO → Prop}
theorem a_lenD {s : Sl} {kvs : List (Str × D)} (q : Dct O s kvs) (p : P (.d (.int kvs.length)) O) : aRC K (fun xs H Q => ∃ a kvs, xs = [V.ref a] ∧ Rd H a (.dK kvs) ∧ Q (.int kvs.length) H) [s] O P := fun H vs w hv Q k => by
  obtain ⟨v, rfl, h1⟩ := sls1 hv
  obtain ⟨a, ps, rfl, h2, h3⟩ := q.read w h1
  refine ⟨a, ps, rfl, h2, ?_⟩
  rw [h3.len]
  exact k _ H _ O p (Same.refl _) w (.int _)
theorem wE_sortedVals (h : wE K te Γ O fun s O1 => ∃ kvs ss, Dct O1 s kvs ∧ kvs.map (·.2) = ss.map D.str ∧ ss.length < 64 ∧ ∀ ys : List Str, ys.Perm ss → sortedS ys = true → P (.d (.lst (ys.map D.str))) O1) : wE K (tSortedVals te) Γ O P := fun σ H w sl Q q =>
  h σ H w sl _ fun v H1 s O1 ⟨kvs, ss, hd, e, h64, p⟩ s1 w1 v1 => by
    obtain ⟨a, ps, rfl, h1, h2⟩ := hd.read w1 v1
    refine ⟨a, ps, ss, rfl, h1, ?_, h64, fun ys l py sy hl => new_lst w1 hl (Dens.of_strs ys) (p ys py sy) fun z H' s O' p s2 w2 z2 => q z H' s O' p (s1.trans s2) w2 z2⟩
    have d : Dens K (hid O1 H1) (ps.map (·.2)) (ss.map D.str) := by
      rw [← e]
      refine ⟨by simp [h2.len], fun i x d a b => ?_⟩
      rw [List.getElem?_map] at a b
      cases e1 : ps[i]? with
      | none => rw [e1] at a; cases a
      | some pp =>
        cases e2 : kvs[i]? with
        | none => rw [e2] at b; cases b
        | some qq =>
          rw [e1] at a; rw [e2] at b
          cases a; cases b
          exact h2.at' i pp qq e1 e2
    exact d.strs
theorem paired_at {α β : Type} {R : α → β → Prop} : ∀ {xs : List α} {ys : List β}, Paired R xs ys → xs.length = ys.length ∧ ∀ (i : Nat) (x : α) (y : β), xs[i]? = some x → ys[i]? = some y → R x y
  | _, _, .nil => ⟨rfl, fun i x y a b => by simp at a⟩
  | _, _, .cons r t => by
    obtain ⟨h1, h2⟩ := paired_at t
    refine ⟨by simp [h1], fun i x y a b => ?_⟩
    cases i with
    | zero => simp at a b; subst a b; exact r
    | succ i => exact h2 i x y (by simpa using a) (by simpa using b)
theorem wE_itemsR (h : wE K te Γ O fun s O1 => ∃ kvs, Dct O1 s kvs ∧ P (.d (.lst (itemsD kvs))) O1) : wE K (tItemsR te) Γ O P := fun σ H w sl Q q =>
  h σ H w sl _ fun v H1 s O1 ⟨kvs, hd, p⟩ s1 w1 v1 => by
    obtain ⟨a, ps, rfl, h1, h2⟩ := hd.read w1 v1
    refine ⟨a, ps, rfl, h1, fun H' l ts hk hl ht nl hL hp => ?_⟩
    have st : PStep O1 H1 H' := ⟨fun b o hb => by
      obtain ⟨e1, e2⟩ := hid_some hb
      exact hid_of (hk b o e1) e2, fun b hb => by
      obtain ⟨u, eu⟩ := w1.dom hb
      rw [eu]; exact hk b u eu⟩
    have w2 := w1.step st
    obtain ⟨p1, p2⟩ := paired_at hp
    refine q _ H' _ O1 p (s1.trans st.same) w2 (.lst (hid_of hL (w1.fresh hl)) (by simp [itemsD, p1, h2.len]) fun i x d hx hd => ?_)
    rw [List.getElem?_map] at hx
    unfold itemsD at hd
    rw [List.getElem?_map] at hd
    cases e1 : ts[i]? with
    | none => rw [e1] at hx; cases hx
    | some t =>
      cases e2 : kvs[i]? with
      | none => rw [e2] at hd; cases hd
      | some qq =>
        obtain ⟨k, dv⟩ := qq
        rw [e1] at hx; rw [e2] at hd
        cases hx; cases hd
        obtain ⟨u, hu, hden⟩ := h2.get e2
        have hT := p2 i t _ e1 hu
        have tm : t ∈ ts := List.mem_of_getElem? e1
        exact .pair (hid_of hT (w1.fresh (ht t tm))) (.str k) (hden.mono st.same)
/-- == of two dicts that hold the same flat things -/
theorem a_eqDct {x y : Sl} {ks ls : List (Str × D)} (qx : Dct O x ks) (qy : Dct O y ls) (hl : ks.length = ls.length) (h : ∀ k d, (k, d) ∈ ks → lookD ls k = some d ∧ d.flat = true) (p : P (.d (.bl true)) O) : aR2 K rEqDR x y O P := fun H v u w hv hu Q k => by
  obtain ⟨a, ps, rfl, h1, h2⟩ := qx.read w hv
  obtain ⟨b, qs, rfl, g1, g2⟩ := qy.read w hu
  refine ⟨a, b, ps, qs, rfl, rfl, h1, g1, by rw [h2.len, g2.len, hl], fun pp hpp => ?_, k _ H _ O p (Same.refl _) w (.bl _)⟩
  obtain ⟨i, hi, e⟩ := List.getElem_of_mem hpp
  have e0 : ps[i]? = some pp := by rw [← e]; exact List.getElem?_eq_getElem hi
  have hik : i < ks.length := by rw [← h2.len]; exact hi
  have e1 : ks[i]? = some ks[i] := List.getElem?_eq_getElem hik
  obtain ⟨u, hu', hden⟩ := h2.get (k := ks[i].1) (d := ks[i].2) e1
  rw [e0] at hu'
  cases hu'
  obtain ⟨f1, f2⟩ := h ks[i].1 ks[i].2 (List.getElem_mem hik)
  obtain ⟨u2, g3, g4⟩ := (g2.look ks[i].1).2 _ f1
  obtain ⟨sv, hsv, fsv⟩ := flat_sc f2
  have e3 := Den.sc hden hsv
  have e4 := Den.sc g4 hsv
  subst e3
  subst e4
  refine ⟨g3, ?_⟩
  revert fsv hsv
  generalize ks[i].2 = dd
  cases dd <;> intro hsv fsv <;> simp [D.sc] at hsv <;> subst hsv <;> rfl
end
end Y

/-! Y: further rules over data: what is walked in pairs, methods of lists, dicts made of pairs, comparisons of rows. -/
namespace Y
open PySem PySem.Spec PyProof.Rows L2
variable {K : PySem.W.Frag}
section
variable {Γ : GG} {O : OO} {te ta tb tc : TE} {tt tu : TT} {P : Sl → OO → Prop} {PB : Bool → OO → Prop} {PI' : List D → (OO → Prop) → OO → Prop} {A : AE}

/-! ### rows that stand still -/
/-- a row at an address, of a kind known, and what keeps it so -/
structure RowAt (K : PySem.W.Frag) (G0 : Hp) (t : Bool) (a : Addr) (ds : List D) (C : OO → Prop) : Prop where
  here : ∀ (H : Hp) (O : OO), C O → OwnOk K H O → Same G0 (hid O H) → ∃ xs, SqB K t H a xs ∧ Dens K (hid O H) xs ds
/-- what keeps a row as it is -/
def keepC (s : Sl) (ds : List D) : OO → Prop := fun O => Seq O s ds
theorem row_at {H : Hp} {v : V} {s : Sl} {ds : List D} (q : Seq O s ds) (w : OwnOk K H O) (h : VOk K (hid O H) v s) : ∃ a t, v = .ref a ∧ RowAt K (hid O H) t a ds (keepC s ds) := by
  have tup : ∀ x, TupD x ds → VOk K (hid O H) v (.d x) → ∃ a t, v = .ref a ∧ RowAt K (hid O H) t a ds (keepC (.d x) ds) := fun x qx h => by
    obtain ⟨a, xs, rfl, h1, h2⟩ := qx.read h
    refine ⟨a, true, rfl, ⟨fun H' O' _ w' sm => ?_⟩⟩
    obtain ⟨b, ys, e, g1, g2⟩ := qx.read (Den.mono sm h)
    cases e
    exact ⟨ys, seqT hid_same g1, g2⟩
  cases q with
  | tup => exact tup _ (.tup ds) h
  | rt => exact tup _ (.rt ds) h
  | lst =>
    obtain ⟨a, xs, rfl, h1, h2⟩ := (SeqL.lst (O := O) ds).read w h
    refine ⟨a, false, rfl, ⟨fun H' O' _ w' sm => ?_⟩⟩
    obtain ⟨b, ys, e, g1, g2⟩ := (SeqL.lst (O := O') ds).read w' (h.mono sm)
    cases e
    exact ⟨ys, SqL.of g1, g2⟩
  | own hl =>
    obtain ⟨a, xs, rfl, h1, h2⟩ := (SeqL.own hl).read w h
    refine ⟨a, false, rfl, ⟨fun H' O' c w' sm => ?_⟩⟩
    cases c with
    | own hl' =>
      obtain ⟨b, ys, e, g1, g2⟩ := (SeqL.own hl').read w' (h.mono sm)
      cases e
      exact ⟨ys, SqL.of g1, g2⟩
def enumD (ds : List D) : List D := ds.zipIdx.map fun p => D.tup [.int (p.2 : Nat), p.1]
theorem enumD_get {ds : List D} {i : Nat} {d : D} (h : (enumD ds)[i]? = some d) : ∃ x, ds[i]? = some x ∧ d = .tup [.int (i : Nat), x] := by
  unfold enumD at h
  rw [List.getElem?_map, List.getElem?_zipIdx] at h
  cases e : ds[i]? with
  | none => rw [e] at h; cases h
  | some x => rw [e] at h; simp at h; exact ⟨x, rfl, h.symm⟩
theorem enumD_len (ds : List D) : (enumD ds).length = ds.length := by simp [enumD]
theorem it_enumB {G0 : Hp} {t : Bool} {a : Addr} {ds : List D} {C : OO → Prop} (R : RowAt K G0 t a ds C) : ItOk K (IteB K t a) (enumD ds) C G0 := fun i H O hC w sm => by
  obtain ⟨xs, h1, h2⟩ := R.here H O hC w sm
  refine ⟨fun hi _ => ⟨xs, h1, by rw [enumD_len] at hi; rw [h2.len]; exact hi⟩, fun d hd => ?_⟩
  obtain ⟨x, hx, rfl⟩ := enumD_get hd
  obtain ⟨v, hv, hden⟩ := h2.get hx
  refine ⟨⟨xs, v, h1, hv⟩, fun y H' ⟨T, u, e1, e2, e3, e4⟩ => ?_⟩
  subst e1
  have e5 := e4 xs h1
  rw [hv] at e5
  cases e5
  exact pair_step w e2 e3 (.int _) hden
theorem wI_enumB {t : TA} (h : wA K t Γ O fun ss O1 => ∃ s ds, ss = [s] ∧ Seq O1 s ds ∧ PI' (enumD ds) (keepC s ds) O1) : wI K (iEnumB K t) Γ O PI' := fun σ H w sl R r =>
  h σ H w sl _ fun vs H1 ss O1 ⟨s, ds, e, hq, p⟩ s1 w1 v1 => by
    subst e
    obtain ⟨v, rfl, h3⟩ := sls1 v1
    obtain ⟨a, b, rfl, ra⟩ := row_at hq w1 h3
    obtain ⟨xs, h1, _⟩ := ra.here H1 O1 hq w1 (Same.refl _)
    exact ⟨b, a, xs, rfl, h1, r _ H1 _ _ O1 p s1 w1 (it_enumB ra)⟩
def zipD (ds es : List D) : List D := (ds.zip es).map fun p => D.tup [p.1, p.2]
theorem zipD_get {ds es : List D} {i : Nat} {d : D} (h : (zipD ds es)[i]? = some d) : ∃ x y, ds[i]? = some x ∧ es[i]? = some y ∧ d = .tup [x, y] := by
  unfold zipD at h
  rw [List.getElem?_map] at h
  cases e : (ds.zip es)[i]? with
  | none => rw [e] at h; cases h
  | some p =>
    rw [e] at h
    cases h
    rw [List.getElem?_zip_eq_some] at e
    exact ⟨p.1, p.2, e.1, e.2, rfl⟩
theorem zipD_len (ds es : List D) : (zipD ds es).length = min ds.length es.length := by simp [zipD]
theorem it_zipB {G0 : Hp} {t u : Bool} {a b : Addr} {ds es : List D} {C C' : OO → Prop} (R : RowAt K G0 t a ds C) (S : RowAt K G0 u b es C') : ItOk K (ItzB K t u a b) (zipD ds es) (fun O => C O ∧ C' O) G0 := fun i H O hC w sm => by
  obtain ⟨xs, h1, h2⟩ := R.here H O hC.1 w sm
  obtain ⟨ys, g1, g2⟩ := S.here H O hC.2 w sm
  refine ⟨fun hi hi' => ⟨xs, ys, h1, g1, ?_⟩, fun d hd => ?_⟩
  · rw [zipD_len] at hi hi'
    have e1 := h2.len
    have e2 := g2.len
    by_cases hc : ds.length ≤ es.length
    · rw [Nat.min_eq_left hc] at hi hi'
      exact .inl ⟨by omega, by omega⟩
    · rw [Nat.min_eq_right (by omega)] at hi hi'
      exact .inr ⟨by omega, by omega⟩
  · obtain ⟨x, y, hx, hy, rfl⟩ := zipD_get hd
    obtain ⟨v, hv, hden⟩ := h2.get hx
    obtain ⟨u', hu, hden'⟩ := g2.get hy
    refine ⟨⟨xs, ys, v, u', h1, g1, hv, hu⟩, fun z H' ⟨T, p, q, e1, e2, e3, e4, e5⟩ => ?_⟩
    subst e1
    have e6 := e4 xs h1
    have e7 := e5 ys g1
    rw [hv] at e6
    rw [hu] at e7
    cases e6; cases e7
    exact pair_step w e2 e3 hden hden'
theorem wI_zipB {t : TA} (h : wA K t Γ O fun ss O1 => ∃ s s' ds es, ss = [s, s'] ∧ Seq O1 s ds ∧ Seq O1 s' es ∧ PI' (zipD ds es) (fun O => keepC s ds O ∧ keepC s' es O) O1) : wI K (iZipB K t) Γ O PI' := fun σ H w sl R r =>
  h σ H w sl _ fun vs H1 ss O1 ⟨s, s', ds, es, e, hq, hq', p⟩ s1 w1 v1 => by
    subst e
    obtain ⟨v, v', rfl, h3, h4⟩ := sls2 v1
    obtain ⟨a, t, rfl, ra⟩ := row_at hq w1 h3
    obtain ⟨b, u, rfl, rb⟩ := row_at hq' w1 h4
    obtain ⟨xs, h1, _⟩ := ra.here H1 O1 hq w1 (Same.refl _)
    obtain ⟨ys, g1, _⟩ := rb.here H1 O1 hq' w1 (Same.refl _)
    exact ⟨t, u, a, b, xs, ys, rfl, h1, g1, r _ H1 _ _ O1 p s1 w1 (it_zipB ra rb)⟩

/-! ### methods of lists -/
theorem own_write {H : Hp} {Q : VK} (w : OwnOk K H O) {l : Nat} {a : Addr} {ds es : List D} {us : List V} {z : V} {s : Sl} (hl : look O l = some (a, .ol ds)) (hd : Dens K (hid O H) us es) (hz : VOk K (hid O H) z s) (p : P s (setO O l (.ol es)))
    (q : ∀ z H' s O', P s O' → Same (hid O H) (hid O' H') → OwnOk K H' O' → VOk K (hid O' H') z s → Q z H') : Q z (upd H a (.lst us)) := by
  obtain ⟨w4, s4⟩ := w.write (H' := upd H a (.lst us)) hl (q := .ol es) rfl (fun b hb => upd_ne (by simpa [oad] using hb)) ⟨_, upd_same, hd⟩
  exact q _ _ _ _ p s4 w4 (hz.mono s4)
theorem a_removeS {l : Nat} {a : Addr} {ns : List Str} {k : Str} {j : Nat} (hl : look O l = some (a, .ol (ns.map D.str))) (hj : ns[j]? = some k) (hno : ∀ m : Nat, m < j → ns[m]? ≠ some k) (p : P (.d .non) (setO O l (.ol ((ns.eraseIdx j).map D.str)))) : aRM K rRemS (.p l a) [.d (.str k)] O P := fun H v vs w hv hs Q q => by
  obtain ⟨u, rfl, h1⟩ := sls1 hs
  cases h1
  have ev : v = .ref a := hv
  subst ev
  obtain ⟨xs, e1, e2⟩ := w.at' hl
  have e := e2.strs
  subst e
  exact ⟨a, ns, k, j, rfl, rfl, e1, hj, hno, own_write (s := .d .non) w hl (Dens.of_strs _) (Den.non (K := K)) p q⟩
theorem a_popAt {l : Nat} {a : Addr} {ds : List D} {i : Int} {k : Nat} {d : D} (hl : look O l = some (a, .ol ds)) (h1 : -(2 ^ 63) ≤ i) (h2 : i < 2 ^ 63) (hk : seqIndex? i ds.length = some k) (hd : ds[k]? = some d) (p : P (.d d) (setO O l (.ol (ds.eraseIdx k)))) : aRM K rPopAt (.p l a) [.d (.int i)] O P := fun H v vs w hv hs Q q => by
  obtain ⟨u, rfl, h3⟩ := sls1 hs
  cases h3
  have ev : v = .ref a := hv
  subst ev
  obtain ⟨xs, e1, e2⟩ := w.at' hl
  obtain ⟨y, hy, hden⟩ := e2.get hd
  refine ⟨a, xs, i, k, y, rfl, rfl, e1, h1, h2, by rw [e2.len]; exact hk, hy, own_write (s := .d d) w hl ?_ hden p q⟩
  refine ⟨by rw [List.length_eraseIdx, List.length_eraseIdx, e2.len], fun j x d' ha hb => ?_⟩
  rw [List.getElem?_eraseIdx] at ha hb
  split at ha
  · rename_i hlt
    rw [if_pos hlt] at hb
    exact e2.at' j x d' ha hb
  · rename_i hlt
    rw [if_neg hlt] at hb
    exact e2.at' _ x d' ha hb
theorem look_ne {H : Hp} (w : OwnOk K H O) {l : Nat} {a b : Addr} {o : OD} {u : HO} (h : look O l = some (a, o)) (hb : hid O H b = some u) : b ≠ a := fun e => (hid_some hb).2 (e ▸ look_dom h)
theorem a_extend {l : Nat} {a : Addr} {ds es : List D} (hl : look O l = some (a, .ol ds)) (hz : ds.length + es.length < 100000) (p : P (.d .non) (setO O l (.ol (ds ++ es)))) : aRM K rExtend (.p l a) [.d (.lst es)] O P := fun H v vs w hv hs Q q => by
  obtain ⟨u, rfl, h3⟩ := sls1 hs
  have ev : v = .ref a := hv
  subst ev
  obtain ⟨xs, e1, e2⟩ := w.at' hl
  obtain ⟨b, ys, rfl, g1, g2⟩ := (SeqL.lst (O := O) es).read w h3
  exact ⟨a, b, xs, ys, rfl, rfl, e1, g1, by rw [e2.len, g2.len]; exact Nat.le_of_lt (Nat.lt_of_lt_of_le hz (by decide)), own_write (s := .d .non) w hl (e2.append g2) (Den.non (K := K)) p q⟩
/-- xs.index(x), lists of texts -/
theorem a_index {s : Sl} {ns : List Str} {k : Str} {j : Nat} (q : SeqL O s (ns.map D.str)) (hj : ns[j]? = some k) (hno : ∀ m : Nat, m < j → ns[m]? ≠ some k) (p : P (.d (.int j)) O) : aRM K (rIndex K) s [.d (.str k)] O P := fun H v vs w hv hs Q kk => by
  obtain ⟨u, rfl, h3⟩ := sls1 hs
  cases h3
  obtain ⟨a, xs, rfl, h1, h2⟩ := q.read w hv
  have e := h2.strs
  subst e
  refine ⟨a, _, .str k, j, .str k, rfl, rfl, SqL.of h1, rfl, (h2.flat (flat_strs ns)).1, by rw [List.getElem?_map, hj]; rfl, ?_, fun m z' hm hz => ?_, kk _ H _ O p (Same.refl _) w (.int _)⟩
  · show (k == k) = true
    simp
  · rw [List.getElem?_map] at hz
    cases e : ns[m]? with
    | none => rw [e] at hz; cases hz
    | some y =>
      rw [e] at hz
      cases hz
      show (y == k) = false
      have hy : y ≠ k := fun z => hno m hm (by rw [e, z])
      simpa using hy
/-- a tuple made by tuple(): where its methods may be called -/
def tyTupR (v : V) (H : Hp) : Prop := ∃ a o xs, v = .ref a ∧ H a = some (.frz o (.tup xs)) ∧ o.dict = none
theorem ty_tupR {X : Cx} : TyOk X "tuple" tyTupR := by
  intro pins σ H s x v I r ty
  obtain ⟨a, o, xs, rfl, h, hn⟩ := ty
  have rv : v = Value.ref a := r
  subst rv
  have hk := I.hok a _ h
  obtain ⟨ho, hz, its, rv', o', ho', hc, n, hd⟩ := hk
  rw [ho] at ho'
  cases ho'
  refine ⟨⟨o, ho, hc⟩, fun b e => ?_⟩
  cases e
  exact ⟨o, ho, hn⟩
def rTIx (K : PySem.W.Frag) : V → List V → Hp → VK → Prop := fun x xs H Q => ∃ p, ∃ ys : List Str, ∃ z j, x = .ref p ∧ xs = [.str z] ∧ SqT K H p (ys.map V.str) ∧ ys[j]? = some z ∧ (∀ m, m < j → ys[m]? ≠ some z) ∧ Q (.int (j : Nat)) H
theorem mt_tix {X : Cx} : MtR X "tuple.index" (rTIx X.K) := mt_tup_index
theorem wE_tix {t : TA} (h : wE K te Γ O fun s O1 => ∃ ns : List Str, s = .d (.rt (ns.map D.str)) ∧ wA K t Γ O1 fun ss O2 => ∃ k j, ss = [.d (.str k)] ∧ ns[j]? = some k ∧ (∀ m : Nat, m < j → ns[m]? ≠ some k) ∧ P (.d (.int (j : Nat))) O2) : wE K (tMG tyTupR (rTIx K) te t) Γ O P := fun σ H w sl Q q =>
  h σ H w sl _ fun v H1 s O1 ⟨ns, e, hb⟩ s1 w1 v1 => by
    subst e
    have v1' := v1
    cases v1 with
    | rt hh hn hl hd =>
      rename_i a o xs
      refine ⟨⟨a, o, xs, rfl, (hid_some hh).1, hn⟩, hb σ H1 w1 (sl.mono s1) _ fun vs H2 ss O2 ⟨k, j, e, hj, hno, p⟩ s2 w2 v2 => ?_⟩
      subst e
      obtain ⟨u, rfl, h3⟩ := sls1 v2
      cases h3
      have h5 : Dens K (hid O2 H2) xs (ns.map D.str) := Dens.mono s2 ⟨hl, hd⟩
      have e := h5.strs
      subst e
      exact ⟨a, ns, k, j, rfl, rfl, .inl (.inr ⟨o, (hid_some (s2 _ _ hh)).1⟩), hj, hno, q _ H2 _ O2 p (s1.trans s2) w2 (.int _)⟩

/-! ### lists put together, turned -/
theorem a_cat {x y : Sl} {ds es : List D} (qx : SeqL O x ds) (qy : SeqL O y es) (hz : ds.length + es.length < 100000) (p : P (.d (.lst (ds ++ es))) O) : aR2 K rCat x y O P := fun H v u w hv hu Q k => by
  obtain ⟨a, xs, rfl, h1, h2⟩ := qx.read w hv
  obtain ⟨b, ys, rfl, g1, g2⟩ := qy.read w hu
  exact ⟨a, b, xs, ys, rfl, rfl, h1, g1, by rw [h2.len, g2.len]; exact Nat.le_of_lt (Nat.lt_of_lt_of_le hz (by decide)), fun l hl => new_lst w hl (h2.append g2) p k⟩
theorem wE_revL (h : wE K te Γ O fun s O1 => ∃ ds, SeqL O1 s ds ∧ P (.d (.lst ds.reverse)) O1) : wE K (tRevL K te) Γ O P := fun σ H w sl Q q =>
  h σ H w sl _ fun v H1 s O1 ⟨ds, hq, p⟩ s1 w1 v1 => by
    obtain ⟨a, xs, rfl, h1, h2⟩ := hq.read w1 v1
    exact ⟨a, xs, rfl, SqL.of h1, fun l hl => new_lst w1 hl h2.reverse p fun z H' s O' p s2 w2 z2 => q z H' s O' p (s1.trans s2) w2 z2⟩
theorem Dens.sls {G : Hp} {xs : List V} {ds : List D} (h : Dens K G xs ds) : SlsOk K G xs (ds.map Sl.d) := ⟨by simpa using h.len, fun i x s a b => by
  rw [List.getElem?_map] at b
  cases e : ds[i]? with
  | none => rw [e] at b; cases b
  | some d => rw [e] at b; cases b; exact h.at' i x d a e⟩
theorem SlsOk.append {G : Hp} : ∀ {xs ys : List V} {ss ts : List Sl}, SlsOk K G xs ss → SlsOk K G ys ts → SlsOk K G (xs ++ ys) (ss ++ ts)
  | xs, ys, [], ts, h, g => by obtain rfl := h.nil_of; exact g
  | xs, ys, s :: ss, ts, h, g => by
    obtain ⟨v, r, rfl, h1, h2⟩ := h.uncons
    exact .cons h1 (SlsOk.append h2 g)
theorem wA_star {t : TA} {PA : List Sl → OO → Prop} (h : wE K te Γ O fun s O1 => ∃ ds, Seq O1 s ds ∧ wA K t Γ O1 fun ss O2 => PA (ds.map Sl.d ++ ss) O2) : wA K (StX.tStar K te t) Γ O PA := fun σ H w sl Q q =>
  h σ H w sl _ fun v H1 s O1 ⟨ds, hq, hb⟩ s1 w1 v1 => by
    obtain ⟨a, xs, rfl, h1, h2⟩ := hq.read w1 v1
    refine ⟨a, xs, rfl, h1.symm, hb σ H1 w1 (sl.mono s1) _ fun vs H2 ss O2 p s2 w2 v2 => q _ H2 _ O2 p (s1.trans s2) w2 ?_⟩
    exact (h2.mono s2).sls.append v2
/-- a part of a list or a tuple -/
theorem a_slAny {s : Sl} {ds : List D} {lo hi : Option Int} (q : Seq O s ds) (p : ∀ y, Seq O (.d y) (cutD ds lo hi) → P (.d y) O) : ∀ (H : Hp) (v : V), OwnOk K H O → VOk K (hid O H) v s → ∀ Q : VK,
    (∀ z H' s O', P s O' → Same (hid O H) (hid O' H') → OwnOk K H' O' → VOk K (hid O' H') z s → Q z H') → (rSlL K v lo hi H Q ∨ rSlA K v lo hi H Q) := fun H v w hv Q k => by
  cases q with
  | lst => exact .inl (a_slL (.lst ds) (p _ (.lst _)) H v w hv Q k)
  | own h => exact .inl (a_slL (.own h) (p _ (.lst _)) H v w hv Q k)
  | tup => exact .inr (a_slT (.tup ds) (fun y t => p y t.seq) H v w hv Q k)
  | rt => exact .inr (a_slT (.rt ds) (fun y t => p y t.seq) H v w hv Q k)

/-! ### == of lists of texts -/
theorem eqvStrs : ∀ xs ys : List Str, PyData.eqvAll (xs.map PyData.str) (ys.map PyData.str) = decide (xs = ys)
  | [], [] => by simp [PyData.eqvAll]
  | [], _ :: _ => by simp [PyData.eqvAll]
  | _ :: _, [] => by simp [PyData.eqvAll]
  | x :: xs, y :: ys => by
    simp only [List.map_cons, PyData.eqvAll, PyData.eqv, eqvStrs xs ys]
    by_cases h : x = y <;> simp [h]
theorem dpStrs {H : Hp} : ∀ xs : List Str, DpAll K H (xs.map V.str) (xs.map PyData.str)
  | [] => .nil
  | x :: xs => .cons (.str x) (dpStrs xs)
theorem layStrs : ∀ {xs : List Str}, (∀ x ∈ xs, PyData.strOk x = true) → PyData.canLayAll0 (xs.map PyData.str) = true
  | [], _ => by simp [PyData.canLayAll0]
  | x :: xs, h => by
    simp only [List.map_cons, PyData.canLayAll0, PyData.canLay0, layStrs fun z hz => h z (List.mem_cons_of_mem _ hz), h x List.mem_cons_self]
    rfl
theorem depStrs : ∀ xs : List Str, PyData.depthAll (xs.map PyData.str) = 0
  | [] => by simp [PyData.depthAll]
  | x :: xs => by simp [PyData.depthAll, PyData.depth, depStrs xs]
theorem shapedStrs {xs : List Str} (h : ∀ x ∈ xs, PyData.strOk x = true) : SeqAt.shaped (.list (xs.map PyData.str)) = true := by
  show (PyData.canLay0 (.list (xs.map PyData.str)) && decide (PyData.depth (.list (xs.map PyData.str)) ≤ 64)) = true
  rw [Bool.and_eq_true]
  refine ⟨by simp only [PyData.canLay0]; exact layStrs h, decide_eq_true ?_⟩
  simp only [PyData.depth, depStrs]
  decide
theorem a_eqStrs {x y : Sl} {xs ys : List Str} (qx : SeqL O x (xs.map D.str)) (qy : SeqL O y (ys.map D.str)) (hx : ∀ z ∈ xs, PyData.strOk z = true) (hy : ∀ z ∈ ys, PyData.strOk z = true) (p : P (.d (.bl (decide (xs = ys)))) O) : aR2 K (rEqD K) x y O P := fun H v u w hv hu Q k => by
  obtain ⟨a, us, rfl, h1, h2⟩ := qx.read w hv
  obtain ⟨b, vs, rfl, g1, g2⟩ := qy.read w hu
  have e1 := h2.strs
  have e2 := g2.strs
  subst e1 e2
  refine ⟨.list (xs.map PyData.str), .list (ys.map PyData.str), .lst (SqL.of h1) (dpStrs xs), .lst (SqL.of g1) (dpStrs ys), shapedStrs hx, shapedStrs hy, ?_⟩
  simp only [PyData.eqv, eqvStrs]
  exact k _ H _ O p (Same.refl _) w (.bl _)
theorem a_neStrs {x y : Sl} {xs ys : List Str} (qx : SeqL O x (xs.map D.str)) (qy : SeqL O y (ys.map D.str)) (hx : ∀ z ∈ xs, PyData.strOk z = true) (hy : ∀ z ∈ ys, PyData.strOk z = true) (p : P (.d (.bl (!decide (xs = ys)))) O) : aR2 K (rNeD K) x y O P := fun H v u w hv hu Q k => by
  obtain ⟨a, us, rfl, h1, h2⟩ := qx.read w hv
  obtain ⟨b, vs, rfl, g1, g2⟩ := qy.read w hu
  have e1 := h2.strs
  have e2 := g2.strs
  subst e1 e2
  refine ⟨.list (xs.map PyData.str), .list (ys.map PyData.str), .lst (SqL.of h1) (dpStrs xs), .lst (SqL.of g1) (dpStrs ys), shapedStrs hx, shapedStrs hy, ?_⟩
  simp only [PyData.eqv, eqvStrs]
  exact k _ H _ O p (Same.refl _) w (.bl _)

/-! ### dict(..) -/
theorem DenK.merge {G : Hp} : ∀ {ls kvs : List (Str × D)} {qs ps : List (Key × V)}, DenK K G ps kvs → DenK K G qs ls → DenK K G (mergeK ps qs) (putAll kvs ls)
  | [], kvs, qs, ps, h, g => by obtain rfl := g.nil_of; exact h
  | (k, d) :: ls, kvs, qs, ps, h, g => by
    obtain ⟨v, r, rfl, h1, h2⟩ := g.uncons
    exact DenK.merge (kvs := putD kvs k d) (ps := putK ps (.inr k) v) (DenK.put k h h1) h2
theorem pairs_read {H : Hp} (w : OwnOk K H O) : ∀ {kvs : List (Str × D)} {xs : List V}, Dens K (hid O H) xs (itemsD kvs) → ∃ (ps : List Addr) (qs : List (Key × V)), xs = ps.map V.ref ∧ Paired (fun p kv => SqT K H p [kV kv.1, kv.2]) ps qs ∧ DenK K (hid O H) qs kvs
  | [], xs, h => by
    obtain rfl := h.nil_of
    exact ⟨[], [], rfl, .nil, .nil⟩
  | (k, d) :: kvs, xs, h => by
    obtain ⟨x, r, rfl, h1, h2⟩ := Dens.uncons (d := D.tup [D.str k, d]) (ds := itemsD kvs) h
    obtain ⟨ps, qs, e, h3, h4⟩ := pairs_read w h2
    obtain ⟨a, zs, rfl, g1, g2⟩ := (TupD.tup [D.str k, d]).read h1
    obtain ⟨u, r1, rfl, k1, k2⟩ := g2.uncons
    obtain ⟨u2, r2, rfl, k3, k4⟩ := k2.uncons
    obtain rfl := k4.nil_of
    cases k1
    exact ⟨a :: ps, (.inr k, u2) :: qs, by rw [e]; rfl, .cons (seqT hid_same g1) h3, .cons k3 h4⟩
def rDictP (K : PySem.W.Frag) : List V → Hp → VK → Prop := fun xs H Q => ∃ (a : Addr) (ps : List Addr) (kvs : List (Key × V)), xs = [.ref a] ∧ SqL K H a (ps.map V.ref) ∧ Paired (fun p kv => SqT K H p [kV kv.1, kv.2]) ps kvs ∧
    ∀ p, H p = none → Q (.ref p) (upd H p (.dK (mergeK [] kvs)))
theorem call_dP {X : Cx} (hc : X.calm = true) : CallR X (.type "dict") (rDictP X.K) := call_dictP hc
theorem a_dictP (m : Nat) {s : Sl} {kvs : List (Str × D)} (q : SeqL O s (itemsD kvs)) (p : ∀ a, P (.p m a) ((m, a, .ok (putAll [] kvs)) :: O)) : aRC K (rDictP K) [s] O P := fun H vs w hv Q k => by
  obtain ⟨v, rfl, h1⟩ := sls1 hv
  obtain ⟨a, xs, rfl, h2, h3⟩ := q.read w h1
  obtain ⟨ps, qs, rfl, h4, h5⟩ := pairs_read w h3
  exact ⟨a, ps, qs, rfl, SqL.of h2, h4, fun l hl => k _ _ _ _ (p l) (hid_cons_new rfl hl) (w.newK m hl (DenK.merge .nil h5)) rfl⟩
def rDictD : List V → Hp → VK → Prop := fun xs H Q => ∃ (a : Addr) (kvs : List (Key × V)), xs = [.ref a] ∧ Rd H a (.dK kvs) ∧ ∀ p, H p = none → Q (.ref p) (upd H p (.dK kvs))
theorem call_dD {X : Cx} : CallR X (.type "dict") rDictD := call_dictD
theorem a_dictD (m : Nat) {s : Sl} {kvs : List (Str × D)} (q : Dct O s kvs) (p : ∀ a, P (.p m a) ((m, a, .ok kvs) :: O)) : aRC K rDictD [s] O P := fun H vs w hv Q k => by
  obtain ⟨v, rfl, h1⟩ := sls1 hv
  obtain ⟨a, ps, rfl, h2, h3⟩ := q.read w h1
  exact ⟨a, ps, rfl, h2, fun l hl => k _ _ _ _ (p l) (hid_cons_new rfl hl) (w.newK m hl h3) rfl⟩
/-- sorted(d), sorted(xs) as lists of one's own -/
theorem a_sortedDOwn (m : Nat) {kvs : List (Str × D)} {s : Sl} (q : Dct O s kvs) (hz : kvs.length < 64) (p : ∀ (ys : List Str) (a : Addr), ys.Perm (kvs.map (·.1)) → PyProof.Rows.sortedS ys = true → P (.p m a) ((m, a, .ol (ys.map D.str)) :: O)) :
    aRC K (fun xs H Q => ∃ (a : Addr) (kvs : List (Key × V)) (ks : List Str), xs = [.ref a] ∧ Rd H a (.dK kvs) ∧ kvs.map (·.1) = ks.map Sum.inr ∧ ks.length < 64 ∧ ∀ ys p, ys.Perm ks → PyProof.Rows.sortedS ys = true → H p = none → Q (.ref p) (upd H p (.lst (ys.map V.str)))) [s] O P := fun H vs w hv Q k => by
  obtain ⟨v, rfl, h1⟩ := sls1 hv
  obtain ⟨a, ps, rfl, h2, h3⟩ := q.read w h1
  exact ⟨a, ps, kvs.map (·.1), rfl, h2, by rw [h3.keys, List.map_map]; rfl, by simpa using hz, fun ys l py sy hl => k _ _ _ _ (p ys l py sy) (hid_cons_new rfl hl) (w.newL m hl (Dens.of_strs ys)) rfl⟩
/-- sorted of pairs of texts -/
def pairD (p : Str × Str) : D := .tup [.str p.1, .str p.2]
theorem rdPair {H : Hp} {x : V} {p : Str × Str} (hx : Den K (hid O H) x (pairD p)) : ∃ t, x = V.ref t ∧ SqT K H t [.str p.1, .str p.2] := by
  obtain ⟨a, zs, rfl, g1, g2⟩ := (TupD.tup [D.str p.1, D.str p.2]).read hx
  have e := Dens.strs (ys := [p.1, p.2]) g2
  subst e
  exact ⟨a, rfl, seqT hid_same g1⟩
def rSortedPS2 (K : PySem.W.Frag) : List V → Hp → VK → Prop := fun vs H Q => ∃ (a : Addr) (xs : List V) (ps : List (Str × Str)), vs = [V.ref a] ∧ SqL K H a xs ∧ xs.length = ps.length ∧ (∀ (i : Nat) (x : V) (p : Str × Str), xs[i]? = some x → ps[i]? = some p → ∃ t, x = V.ref t ∧ SqT K H t [.str p.1, .str p.2]) ∧
  ∀ (k : V → Str × Str) ys p, xs.map k = ps → ys.Perm xs → ys.Pairwise (fun x y => sl2 (k y) (k x) = false) → H p = none → Q (.ref p) (upd H p (.lst ys))
theorem cr_sortedPS2 {X : Cx} : CallR X (.builtin "sorted") (rSortedPS2 X.K) := by
  classical
  intro pins s σ H vs us Q I r hyp
  obtain ⟨a, xs, ps, rfl, hs, hl, hx, q⟩ := hyp
  let R : V → Str × Str → Prop := fun x p => ∃ t, x = V.ref t ∧ SqT X.K H t [.str p.1, .str p.2]
  have un : ∀ x p q, R x p → R x q → p = q := fun x p q ⟨t, e, h⟩ ⟨t', e', h'⟩ => by
    rw [e] at e'
    cases e'
    have z := I.tuple_inj h h'
    simp at z
    exact Prod.ext z.1 z.2
  let k : V → Str × Str := fun x => if hx : ∃ p, R x p then hx.choose else (⟨#[]⟩, ⟨#[]⟩)
  have kx : ∀ x p, R x p → k x = p := fun x p hp => by
    have hx : ∃ p, R x p := ⟨p, hp⟩
    have e : k x = hx.choose := dif_pos hx
    rw [e]
    exact un x _ _ hx.choose_spec hp
  have hm : xs.map k = ps := by
    apply List.ext_getElem?
    intro i
    rw [List.getElem?_map]
    by_cases hi : i < xs.length
    · have e1 : xs[i]? = some xs[i] := List.getElem?_eq_getElem hi
      have e2 : ps[i]? = some (ps[i]'(hl ▸ hi)) := List.getElem?_eq_getElem (hl ▸ hi)
      rw [e1, e2]
      exact congrArg some (kx _ _ (hx i _ _ e1 e2))
    · rw [List.getElem?_eq_none (by omega), List.getElem?_eq_none (by omega)]; rfl
  refine cr_sortedPS pins s σ H _ us Q I r ⟨a, xs, k, rfl, hs, fun x hxm => ?_, fun ys p h1 h2 h3 => q k ys p hm h1 h2 h3⟩
  obtain ⟨i, hi, e⟩ := List.getElem_of_mem hxm
  have e1 : xs[i]? = some x := by rw [← e]; exact List.getElem?_eq_getElem hi
  have e2 : ps[i]? = some (ps[i]'(hl ▸ hi)) := List.getElem?_eq_getElem (hl ▸ hi)
  have hr := hx i _ _ e1 e2
  rw [kx _ _ hr]
  exact hr
theorem a_sortedPS {s : Sl} {ps : List (Str × Str)} (q : SeqL O s (ps.map pairD)) (p : ∀ qs : List (Str × Str), qs.Perm ps → qs.Pairwise (fun x y => sl2 y x = false) → P (.d (.lst (qs.map pairD))) O) : aRC K (rSortedPS2 K) [s] O P := fun H vs w hv Q k => by
  obtain ⟨v, rfl, h1⟩ := sls1 hv
  obtain ⟨a, xs, rfl, h2, h3⟩ := q.read w h1
  have at' : ∀ (i : Nat) (x : V) (p : Str × Str), xs[i]? = some x → ps[i]? = some p → Den K (hid O H) x (pairD p) := fun i x p hx hp => h3.at' i x (pairD p) hx (by rw [List.getElem?_map, hp]; rfl)
  refine ⟨a, xs, ps, rfl, SqL.of h2, by simpa using h3.len, fun i x p hx hp => rdPair (at' i x p hx hp), fun kk ys l hm hp hw hl => ?_⟩
  have hd : ∀ y ∈ xs, Den K (hid O H) y (pairD (kk y)) := fun y hy => by
    obtain ⟨i, hi, e⟩ := List.getElem_of_mem hy
    have e1 : xs[i]? = some y := by rw [← e]; exact List.getElem?_eq_getElem hi
    refine at' i y _ e1 ?_
    rw [← hm, List.getElem?_map, e1]; rfl
  refine new_lst w hl (ds := (ys.map kk).map pairD) ⟨by simp, fun i x d hx hd' => ?_⟩ (p (ys.map kk) (by rw [← hm]; exact hp.map kk) (List.pairwise_map.mpr hw)) k
  rw [List.getElem?_map, List.getElem?_map, hx] at hd'
  cases hd'
  exact hd x (hp.mem_iff.mp (List.mem_of_getElem? hx))
end
end Y

/-! Y: statements that own or give away, comprehensions of two clauses, signs in texts. -/
namespace Y
open PySem PySem.Spec PyProof.Rows L2
variable {K : PySem.W.Frag}
section
variable {Γ : GG} {O : OO} {te ta tb tc : TE} {tt tu : TT} {P : Sl → OO → Prop} {PB : Bool → OO → Prop} {PI' : List D → (OO → Prop) → OO → Prop} {A : AE} {ts tw : TS}
/-- a, b = x, y by a tuple, whatever x and y are -/
theorem wS_asgTup {t : TA} {n : Nat} {u : TGs} (h : wA K t Γ O fun ss O1 => ss.length = n ∧ n ≤ 1000 ∧ wGs K u ss Γ O1 A.nx) : wS K (tAsg (tTup t) (gTup K n u)) Γ O A := fun σ H D w sl e =>
  h σ H w sl _ fun vs H1 ss O1 ⟨hn, hz, hg⟩ s1 w1 v1 => by
    have hl : vs.length = n := v1.len.trans hn
    refine ⟨by rw [hl]; exact Nat.le_trans hz (by decide), fun a ha => ?_⟩
    have st := w1.alloc (o := .tup vs) ha
    refine ⟨a, vs, rfl, SqT.of upd_same, hl, ?_⟩
    exact hg vs σ _ (w1.step st) ((sl.mono s1).mono st.same) (v1.mono st.same) D.nx fun σ' H' Γ' O' p s2 w2 sl2 => e.nx σ' H' Γ' O' p ((s1.trans st.same).trans s2) w2 sl2
/-- a list of one's own in slot i is data from here on -/
theorem wS_pubL {i l : Nat} {a : Addr} {ds : List D} (hi : Γ[i]? = some (some (.p l a))) (hl : look O l = some (a, .ol ds)) (h : wS K ts (Γ.set i (some (.d (.lst ds)))) (dropO O l) A) : wS K ts Γ O A := fun σ H D w sl e => by
  obtain ⟨v, h1, h2⟩ := sl.at' i _ hi
  have ev : v = .ref a := h2
  subst ev
  obtain ⟨xs, g1, g2⟩ := w.at' hl
  have d := g2.mono (hid_dropO (l := l))
  have den : Den K (hid (dropO O l) H) (.ref a) (.lst ds) := .lst (hid_of g1 (dropO_out w.nd hl a oad_self)) d.len d.at'
  have sl2 := (sl.mono (hid_dropO (l := l))).set i (s := .d (.lst ds)) den
  have es : σ.set i (some (V.ref a)) = σ := by
    apply List.ext_getElem?
    intro j
    rw [List.getElem?_set]
    by_cases hj : i = j
    · subst hj
      rw [if_pos rfl, h1]
      have hlt := (List.getElem?_eq_some_iff.mp h1).1
      rw [if_pos hlt]
    · rw [if_neg hj]
  rw [es] at sl2
  exact h σ H D (w.dropO l) sl2 (e.mono hid_dropO)
/-- a dict of one's own in slot i is locked for good -/
def tFrzS (i : Nat) (ts : TS) : TS := fun D σ H => ∃ a ps, σ[i]? = some (some (.ref a)) ∧ H a = some (.dK ps) ∧ ∀ od, ts D σ (upd H a (.frz od (.dK ps)))
theorem ps_frz {X : Cx} {st : Stmt} {i : Nat} (h : PS X st ts) : PS X st (tFrzS i ts) := by
  refine ⟨fun pins s σ H D I hw => ?_⟩
  obtain ⟨a, ps, _, ha, q⟩ := hw
  obtain ⟨od, I2⟩ := I.lock ha trivial
  exact h.run pins s σ _ D I2 (q od)
theorem wS_frz {i l : Nat} {a : Addr} {kvs : List (Str × D)} (hi : Γ[i]? = some (some (.p l a))) (hl : look O l = some (a, .ok kvs)) (h : wS K ts (Γ.set i (some (.d (.dct kvs)))) (dropO O l) A) : wS K (tFrzS i ts) Γ O A := fun σ H D w sl e => by
  obtain ⟨v, h1, h2⟩ := sl.at' i _ hi
  have ev : v = .ref a := h2
  subst ev
  obtain ⟨ps, g1, g2⟩ := frz_step w hl
  refine ⟨a, ps, h1, g1, fun od => ?_⟩
  obtain ⟨s3, w3, den⟩ := g2 od
  have sl2 := (sl.mono s3).set i (s := .d (.dct kvs)) den
  have es : σ.set i (some (V.ref a)) = σ := by
    apply List.ext_getElem?
    intro j
    rw [List.getElem?_set]
    by_cases hj : i = j
    · subst hj
      rw [if_pos rfl, h1]
      have hlt := (List.getElem?_eq_some_iff.mp h1).1
      rw [if_pos hlt]
    · rw [if_neg hj]
  rw [es] at sl2
  exact h σ _ D w3 sl2 (e.mono s3)
/-- one thing less owned -/
theorem wS_drop' {l : Nat} (h : wS K ts Γ (dropO O l) A) : wS K ts Γ O A := fun σ H D w sl e => h σ H D (w.dropO l) (sl.mono hid_dropO) (e.mono hid_dropO)
theorem a_inSign {c : Nat} {z : Str} (p : P (.d (.bl (decide (c ∈ z.cps.toList)))) O) : aR2 K (fun x y H Q => ∃ (c : Nat) (z : Str), x = .str ⟨#[c]⟩ ∧ y = .str z ∧ Q (.bl (decide (c ∈ z.cps.toList))) H) (.d (.str ⟨#[c]⟩)) (.d (.str z)) O P := a2 (fun H v u w hv hu Q q => by
  cases hv; cases hu; exact ⟨c, z, rfl, rfl, q _ (.bl _)⟩) p
theorem a_notInSign {c : Nat} {z : Str} (p : P (.d (.bl (!decide (c ∈ z.cps.toList)))) O) : aR2 K (fun x y H Q => ∃ (c : Nat) (z : Str), x = .str ⟨#[c]⟩ ∧ y = .str z ∧ Q (.bl (!decide (c ∈ z.cps.toList))) H) (.d (.str ⟨#[c]⟩)) (.d (.str z)) O P := a2 (fun H v u w hv hu Q q => by
  cases hv; cases hu; exact ⟨c, z, rfl, rfl, q _ (.bl _)⟩) p
/-- [e for x in xs for y in f(x)], parts that change nothing: G tells what comes of each x -/
theorem wE_lc2P {wi wi1 : TI} {g g1 : TG} {tt1 : TT} {vs vs1 : List Nat} (tg : TgK g vs) (tg1 : TgK g1 vs1)
    (h : wI K wi Γ O fun ds C O1 => ∃ G : D → List D, (∀ acc a, C ((99, a, .ol acc) :: O1)) ∧ (ds.flatMap G).length < 100000 ∧
      (∀ (i : Nat) (d : D) (acc : List D) (a : Addr), ds[i]? = some d → wG K g (.d d) (wipeG Γ vs) ((99, a, .ol acc) :: O1) fun Γ2 O2 => wT K tt Γ2 O2 fun b O3 => b = true ∧ wI K wi1 Γ2 O3 fun es C1 O4 => O4 = (99, a, .ol acc) :: O1 ∧ (∀ acc, C1 ((99, a, .ol acc) :: O1)) ∧ ∃ f : D → Option D, G d = es.filterMap f ∧
        ∀ (j : Nat) (e : D) (acc : List D), es[j]? = some e → wG K g1 (.d e) (wipeG Γ2 vs1) ((99, a, .ol acc) :: O1) fun Γ3 O5 => wT K tt1 Γ3 O5 fun b O6 =>
          (b = true → wE K te Γ3 O6 fun y O7 => O7 = (99, a, .ol acc) :: O1 ∧ ∃ r, y = .d r ∧ f e = some r) ∧ (b = false → O6 = (99, a, .ol acc) :: O1 ∧ f e = none)) ∧
      P (.d (.lst (ds.flatMap G))) O1) : wE K (tLc2 wi g tt wi1 g1 tt1 te vs vs1) Γ O P := fun σ H w sl Q q =>
  h σ H w sl _ fun J H1 ds C O1 ⟨G, hC, hz, hs, hd⟩ s1 w1 it a ha => by
    have w0 := w1.newL 99 ha (Dens.nil (K := K))
    have s0 : Same (hid O1 H1) (hid ((99, a, OD.ol []) :: O1) (upd H1 a (.lst []))) := hid_cons_new rfl ha
    have glen : ∀ (i : Nat) (d : D), ds[i]? = some d → ((ds.take i).flatMap G).length + (G d).length ≤ (ds.flatMap G).length := fun i d hd => by
      have e1 : ds = ds.take i ++ d :: ds.drop (i + 1) := by
        have hi := (List.getElem?_eq_some_iff.mp hd)
        obtain ⟨hi, e⟩ := hi
        rw [← e, ← List.drop_eq_getElem_cons hi, List.take_append_drop]
      conv => rhs; rw [e1]
      rw [List.flatMap_append, List.length_append, List.flatMap_cons, List.length_append]
      omega
    let W : Nat → Hp → Prop := fun i H' => Same (hid O1 H1) (hid ((99, a, OD.ol ((ds.take i).flatMap G)) :: O1) H') ∧ OwnOk K H' ((99, a, .ol ((ds.take i).flatMap G)) :: O1)
    refine ⟨fun i m H' => m = ds.length - i ∧ i ≤ ds.length ∧ W i H', ⟨_, rfl, Nat.zero_le _, s0, w0⟩, ?_⟩
    rintro i m H' ⟨rfl, hi, s2, w2⟩
    obtain ⟨h1, h2⟩ := it i H' _ (hC _ a) w2 s2
    by_cases hlt : i < ds.length
    · have hdi := List.getElem?_eq_getElem hlt
      obtain ⟨hg, hy⟩ := h2 ds[i] hdi
      refine .inr ⟨hg, W (i + 1), fun H3 q => ⟨_, by omega, rfl, hlt, q⟩, fun x H3 y => ?_⟩
      obtain ⟨ps, hx⟩ := hy x H3 y
      have B : Same (hid O1 H1) (hid ((99, a, OD.ol ((ds.take i).flatMap G)) :: O1) H3) := s2.trans ps.same
      have w3 := w2.step ps
      have sl3 : SlOk K (hid ((99, a, OD.ol ((ds.take i).flatMap G)) :: O1) H3) (wipe σ vs) (wipeG Γ vs) := ((sl.mono s1).mono B).wipe vs
      have key := hs i ds[i] ((ds.take i).flatMap G) a hdi x (wipe σ vs) H3 w3 sl3 hx
      have := tg x (wipe σ vs) H3 _ (key (fun σ2 H2 => tt σ2 H2 fun b H3 =>
        if b = true then wi1 σ2 H3 fun J1 H4 => ∃ W1 : Nat → Nat → Hp → Prop, (∃ m, W1 0 m H4) ∧ ∀ j k H, W1 j k H →
          (J1.stop j H ∧ W (i + 1) H) ∨ (J1.go j H ∧ ∃ Nx1 : Hp → Prop, (∀ H', Nx1 H' → ∃ k', k' < k ∧ W1 (j + 1) k' H') ∧ ∀ x H', J1.yld j H x H' → g1 x (wipe σ2 vs1) H' fun σ3 H5 => wipe σ3 vs1 = wipe σ2 vs1 ∧ tt1 σ3 H5 fun b H6 =>
            if b = true then te σ3 H6 fun y H7 => ∃ acc, H7 a = some (.lst acc) ∧ acc.length < sizeLine ∧ Nx1 (upd H7 a (.lst (acc ++ [y]))) else Nx1 H6)
        else W (i + 1) H3) fun σ4 H4 Γ4 O4 ht s4 w4 sl4 => ?_)
      · rw [wipe_wipe] at this
        exact this
      · refine ht σ4 H4 w4 sl4 _ fun b H5 O5 ⟨hb, hI⟩ s5 w5 => ?_
        subst hb
        show wi1 σ4 H5 _
        refine hI σ4 H5 w5 (sl4.mono s5) _ fun J1 H6 es C1 O6 ⟨e6, hC1, f, hf, hturn⟩ s6 w6 it1 => ?_
        subst e6
        have base := glen i ds[i] hdi
        have tk : ds.take (i + 1) = ds.take i ++ [ds[i]] := by
          rw [List.take_add_one, hdi]; rfl
        have B6 := ((B.trans s4).trans s5).trans s6
        let AC : Nat → List D := fun j => (ds.take i).flatMap G ++ (es.take j).filterMap f
        have AC0 : AC 0 = (ds.take i).flatMap G := by simp [AC]
        let W1 : Nat → Hp → Prop := fun j H' => Same (hid ((99, a, OD.ol (AC 0)) :: O1) H6) (hid ((99, a, OD.ol (AC j)) :: O1) H') ∧ OwnOk K H' ((99, a, .ol (AC j)) :: O1)
        refine ⟨fun j m H' => m = es.length - j ∧ j ≤ es.length ∧ W1 j H', ⟨_, rfl, Nat.zero_le _, Same.refl _, by rw [AC0]; exact w6⟩, ?_⟩
        rintro j m H7 ⟨rfl, hj, s7, w7⟩
        have s7' : Same (hid ((99, a, OD.ol ((ds.take i).flatMap G)) :: O1) H6) (hid ((99, a, OD.ol (AC j)) :: O1) H7) := by rw [← AC0]; exact s7
        obtain ⟨k1, k2⟩ := it1 j H7 _ (hC1 _) w7 s7'
        by_cases hjt : j < es.length
        · have hej := List.getElem?_eq_getElem hjt
          obtain ⟨kg, ky⟩ := k2 es[j] hej
          refine .inr ⟨kg, W1 (j + 1), fun H3 q => ⟨_, by omega, rfl, hjt, q⟩, fun x2 H8 y2 => ?_⟩
          obtain ⟨ps2, hx2⟩ := ky x2 H8 y2
          have w8 := w7.step ps2
          have sl8 : SlOk K (hid ((99, a, OD.ol (AC j)) :: O1) H8) (wipe σ4 vs1) (wipeG Γ4 vs1) := ((((sl4.mono s5).mono s6).mono s7').mono ps2.same).wipe vs1
          have key1 := hturn j es[j] (AC j) hej x2 (wipe σ4 vs1) H8 w8 sl8 hx2
          have tkj : es.take (j + 1) = es.take j ++ [es[j]] := by
            rw [List.take_add_one, hej]; rfl
          have acl : (AC j).length < 100000 := by
            have z1 : ((es.take j).filterMap f).length ≤ (es.filterMap f).length := (((List.take_sublist j es).filterMap f)).length_le
            rw [hf] at base
            show ((ds.take i).flatMap G ++ (es.take j).filterMap f).length < _
            rw [List.length_append]
            omega
          have := tg1 x2 (wipe σ4 vs1) H8 _ (key1 (fun σ3 H5 => tt1 σ3 H5 fun b H6 =>
            if b = true then te σ3 H6 fun y H7 => ∃ acc, H7 a = some (.lst acc) ∧ acc.length < sizeLine ∧ W1 (j + 1) (upd H7 a (.lst (acc ++ [y]))) else W1 (j + 1) H6) fun σ9 H9 Γ9 O9 ht9 s9 w9 sl9 => ?_)
          · rw [wipe_wipe] at this
            exact this
          · refine ht9 σ9 H9 w9 sl9 _ fun b H10 O10 ⟨p1, p2⟩ s10 w10 => ?_
            have S10 := ((s7.trans ps2.same).trans s9).trans s10
            cases b with
            | false =>
              obtain ⟨e10, ef⟩ := p2 rfl
              subst e10
              have ea : AC (j + 1) = AC j := by
                show _ ++ (es.take (j + 1)).filterMap f = _
                rw [tkj, List.filterMap_append]
                simp [ef, AC]
              show W1 (j + 1) H10
              exact ⟨by rw [ea]; exact S10, by rw [ea]; exact w10⟩
            | true =>
              refine p1 rfl σ9 H10 w10 (sl9.mono s10) _ fun z H11 sz O11 ⟨e11, r, er, ef⟩ s11 w11 z11 => ?_
              subst e11 er
              have ea : AC (j + 1) = AC j ++ [r] := by
                show _ ++ (es.take (j + 1)).filterMap f = _
                rw [tkj, List.filterMap_append, ← List.append_assoc]
                simp [ef, AC]
              obtain ⟨xs, x1, x2⟩ := w11.at' (l := 99) (a := a) (o := .ol (AC j)) rfl
              obtain ⟨w12, s12⟩ := w11.write (H' := upd H11 a (.lst (xs ++ [z]))) (l := 99) (a := a) (o := .ol (AC j)) (q := .ol (AC j ++ [r])) rfl rfl (fun b hb => upd_ne (by simpa [oad] using hb)) ⟨_, upd_same, x2.append (.cons z11 .nil)⟩
              refine ⟨xs, x1, by rw [x2.len]; exact Nat.lt_of_lt_of_le acl (by decide), ?_, ?_⟩
              · rw [ea]; exact (S10.trans s11).trans s12
              · rw [ea]; exact w12
        · have ej : j = es.length := by omega
          subst ej
          refine .inl ⟨k1 (Nat.le_refl _) (Nat.le_refl _), ?_⟩
          have ea : (ds.take (i + 1)).flatMap G = AC es.length := by
            rw [tk, List.flatMap_append]
            simp [AC, hf]
          show Same _ (hid ((99, a, OD.ol ((ds.take (i + 1)).flatMap G)) :: O1) H7) ∧ OwnOk K H7 ((99, a, .ol ((ds.take (i + 1)).flatMap G)) :: O1)
          rw [ea]
          exact ⟨B6.trans s7', w7⟩
    · have ei : i = ds.length := by omega
      subst ei
      have et : ds.take ds.length = ds := List.take_length
      refine .inl ⟨h1 (Nat.le_refl _) (Nat.le_refl _), ?_⟩
      have w2' : OwnOk K H' ((99, a, .ol (ds.flatMap G)) :: O1) := by rw [et] at w2; exact w2
      have s2' : Same (hid O1 H1) (hid ((99, a, OD.ol (ds.flatMap G)) :: O1) H') := by rw [et] at s2; exact s2
      exact q _ H' _ O1 hd (s1.trans (s2'.trans hid_drop)) w2'.drop w2'.denL
end
end Y

/-! Y: dict(zip(xs, ys)), list(zip(xs, ys)), xs, ys lists, xs of texts. -/
namespace Y
open PySem PySem.Spec PyProof.Rows L2 PySem.W
theorem nolen_zip : typeLookup (.type "zip") "__len__" = pure none := by rw [typeLookup_type, builtinLookup_eq_fast]; kernel_rfl
theorem nohint_zip : typeLookup (.type "zip") "__length_hint__" = pure none := by rw [typeLookup_type, builtinLookup_eq_fast]; kernel_rfl
/-- a zip i turns on -/
structure ZSt (h : Heap) (z TI TO i1 i2 l1 l2 S : Addr) (xs ys : Array Value) (i : Nat) : Prop where
  ti : IsPair h TI (.ref i1) (.ref i2)
  h1 : h.IsListIter i1 l1 i
  h2 : h.IsListIter i2 l2 i
  a1 : h.IsList l1 xs
  a2 : h.IsList l2 ys
  st : (IsZip h z TI TO .none ∧ ∃ a b, IsPair h TO a b) ∨ ∃ T f oT, IsZipHeld h z TI TO T f ∧ h.get? T = some oT ∧ T ≠ z ∧ T ≠ i1 ∧ T ≠ i2 ∧ T ≠ S
theorem ZSt.keep {h h' : Heap} {z TI TO i1 i2 l1 l2 S : Addr} {xs ys : Array Value} {i : Nat} (hz : z ≠ S) (hTI : TI ≠ S) (hTO : TO ≠ S) (n1 : i1 ≠ S) (n2 : i2 ≠ S) (m1 : l1 ≠ S) (m2 : l2 ≠ S) (x : ZSt h z TI TO i1 i2 l1 l2 S xs ys i)
    (hk : ∀ b o, b ≠ S → h.get? b = some o → h'.get? b = some o) : ZSt h' z TI TO i1 i2 l1 l2 S xs ys i := by
  obtain ⟨ti, h1, h2, a1, a2, st⟩ := x
  refine ⟨hk _ _ hTI ti, h1.at fun o e => hk _ o n1 e, h2.at fun o e => hk _ o n2 e, a1.at fun o e => hk _ o m1 e, a2.at fun o e => hk _ o m2 e, ?_⟩
  rcases st with ⟨k1, a, b, k2⟩ | ⟨T, f, oT, k1, k2, k3, k4, k5, k6⟩
  · exact .inl ⟨hk _ _ hz k1, a, b, hk _ _ hTO k2⟩
  · exact .inr ⟨T, f, oT, hk _ _ hz k1, hk _ _ k6 k2, k3, k4, k5, k6⟩
section
variable {prog : Program} {w : World} {A : Around} {E : Value → Shared → Prop} {s : Shared} {z TI TO i1 i2 l1 l2 S : Addr} {xs ys : Array Value}
theorem zst_item {i : Nat} {x y : Value} {Q : Option Value → Shared → Prop} (D : ZipApart z TI TO i1 i2 l1 l2) (st : ZSt s.heap z TI TO i1 i2 l1 l2 S xs ys i) (hS : S < s.heap.objs.size) (hx : xs[i]? = some x) (hy : ys[i]? = some y)
    (hQ : ∀ h', ZSt h' z TI TO i1 i2 l1 l2 S xs ys (i + 1) → IsPair h' s.heap.objs.size x y → (∀ c o, c ≠ z → c ≠ TO → c ≠ i1 → c ≠ i2 → s.heap.get? c = some o → h'.get? c = some o) → Q (some (.ref s.heap.objs.size)) { s with heap := h' }) :
    wpAny (model prog w) A (pyNext (.ref z)) Q E s := by
  obtain ⟨ti, h1, h2, hl1, hl2, st⟩ := st
  have lt : ∀ {c o}, s.heap.get? c = some o → s.heap.objs.size ≠ c := fun e => Nat.ne_of_gt (Heap.lt_size e)
  have n1 : s.heap.objs.size ≠ i1 := let ⟨_, e, _⟩ := h1; lt e
  have n2 : s.heap.objs.size ≠ i2 := let ⟨_, e, _⟩ := h2; lt e
  rcases st with ⟨hz, a, b, hTO⟩ | ⟨T, f, oT, hz, hT, r1, r2, r3, r4⟩
  · refine wpAny_pyNext_zip_item D hz ti hTO h1 h2 hl1 hl2 hx hy fun h' a1 a2 a3 a4 a5 a6 hk => ?_
    exact hQ h' ⟨hk _ _ D.TIz D.TITO D.TIi1 D.TIi2 ti, a3, a4, hl1.at fun o e => hk _ o D.l1z D.l1TO D.l1i1 D.l1i2 e, hl2.at fun o e => hk _ o D.l2z D.l2TO D.l2i1 D.l2i2 e,
      .inr ⟨s.heap.objs.size, false, _, a1, a5, lt hz, n1, n2, Nat.ne_of_gt hS⟩⟩ a5 hk
  · refine wpAny_pyNext_zip_item_held D hz hT ti h1 h2 hl1 hl2 hx hy fun h' a1 a3 a4 a5 a6 hk => ?_
    exact hQ h' ⟨hk _ _ D.TIz D.TIi1 D.TIi2 ti, a3, a4, hl1.at fun o e => hk _ o D.l1z D.l1i1 D.l1i2 e, hl2.at fun o e => hk _ o D.l2z D.l2i1 D.l2i2 e,
      .inr ⟨T, true, oT, a1, hk _ _ r1 r2 r3 hT, r1, r2, r3, r4⟩⟩ a5 fun c o c1 _ c3 c4 e => hk c o c1 c3 c4 e
theorem zst_done {i : Nat} {Q : Option Value → Shared → Prop} (hA : A.handled = none) (D : ZipApart z TI TO i1 i2 l1 l2) (st : ZSt s.heap z TI TO i1 i2 l1 l2 S xs ys i) (hend : xs[i]? = none ∨ ys[i]? = none)
    (hQ : ∀ h', (∀ c o, c ≠ z → c ≠ TO → c ≠ i1 → c ≠ i2 → s.heap.get? c = some o → h'.get? c = some o) → Q none { s with heap := h' }) :
    wpAny (model prog w) A (pyNext (.ref z)) Q E s := by
  obtain ⟨ti, h1, h2, hl1, hl2, st⟩ := st
  rcases st with ⟨hz, a, b, hTO⟩ | ⟨T, f, oT, hz, hT, r1, r2, r3, r4⟩
  · exact wpAny_pyNext_zip_end hA D hz ti hTO h1 h2 hl1 hl2 hend hQ
  · exact wpAny_pyNext_zip_end_held hA D hz hT ti h1 h2 hl1 hl2 hend fun h' hk => hQ h' fun c o c1 _ c3 c4 e => hk c o c1 c3 c4 e
variable {R : Result → Shared → Prop} {kvs : List (Key × Value)}
/-- what is below the list -/
structure Below (z TI TO i1 i2 l1 l2 S : Addr) : Prop where
  z : z < S
  ti : TI < S
  to' : TO < S
  i1 : i1 < S
  i2 : i2 < S
  l1 : l1 < S
  l2 : l2 < S
theorem lz_loop (hh : A.handled = none) (D : ZipApart z TI TO i1 i2 l1 l2) (L : Below z TI TO i1 i2 l1 l2 S) (hkv : ∀ (i : Nat) (k : Key) (x : Value), kvs[i]? = some (k, x) → ∃ key, xs[i]? = some key ∧ ys[i]? = some x ∧ (mixKind prog w).is k key = true) (hlen : kvs.length = min xs.size ys.size) (hn : kvs.length ≤ sizeLine) (res : Value) {h₁ : Heap}
    (hR : ∀ h' tk acc c as, (∀ b o, b ≠ S → b ≠ z → b ≠ TO → b ≠ i1 → b ≠ i2 → h₁.get? b = some o → h'.get? b = some o) → h'.get? S = some { cls := .type "list", dict := none, data := .seq acc c, slots := #[] } → as.length = kvs.length → KdxG (mixKind prog w) kvs S h' as →
      acc.toList = as.map Value.ref → R (.ok (.ret res)) { s with heap := h', toks := tk }) :
    ∀ (k i : Nat) (h : Heap) (tk c : Nat) (acc : Array Value) (as : List Addr), kvs.length - i = k → i ≤ kvs.length → ZSt h z TI TO i1 i2 l1 l2 S xs ys i → (∀ b o, b ≠ S → b ≠ z → b ≠ TO → b ≠ i1 → b ≠ i2 → h₁.get? b = some o → h.get? b = some o) →
      h.get? S = some { cls := .type "list", dict := none, data := .seq acc c, slots := #[] } → acc.toList = as.map Value.ref → as.length = i → KdxG (mixKind prog w) kvs S h as →
      codeAny (model prog w) A (.builtin "list.extend.loop" ⟨[.ref S, .ref z, res], []⟩) R { s with heap := h, toks := tk } := by
  intro k
  induction k with
  | zero =>
    intro i h tk c acc as hk hi hst hkeep hS hacc hal hG
    have hin : i = kvs.length := by omega
    refine codeAny_builtin PySem.F.entry_extend_loop ?_
    rw [Around.under_plainId PySem.F.plain_extend_loop _]
    show wpAny _ A.in1 (pyNext (.ref z) >>= _) _ _ _
    have hend : xs[i]? = none ∨ ys[i]? = none := by
      rcases Nat.le_total xs.size ys.size with h | h
      · exact .inl (Array.getElem?_eq_none (by rw [hin, hlen, Nat.min_eq_left h]; exact Nat.le_refl _))
      · exact .inr (Array.getElem?_eq_none (by rw [hin, hlen, Nat.min_eq_right h]; exact Nat.le_refl _))
    refine wpAny_bind (zst_done (s := { s with heap := h, toks := tk }) (A := A.in1) hh D hst hend fun h' he => ?_)
    refine wpAny_pure (hR h' tk acc c as (fun b o h1 h2 h3 h4 h5 e => he b o h2 h3 h4 h5 (hkeep b o h1 h2 h3 h4 h5 e)) (he S _ (Nat.ne_of_gt L.z) (Nat.ne_of_gt L.to') (Nat.ne_of_gt L.i1) (Nat.ne_of_gt L.i2) hS) (by omega) ⟨hG.rise, hG.above, fun j a hj => ?_⟩ hacc)
    obtain ⟨key, kk, x, e1, e2, e3⟩ := hG.pairs j a hj
    have ha := hG.above a (List.mem_of_getElem? hj)
    exact ⟨key, kk, x, e1, e2, he a _ (Nat.ne_of_gt (Nat.lt_trans L.z ha)) (Nat.ne_of_gt (Nat.lt_trans L.to' ha)) (Nat.ne_of_gt (Nat.lt_trans L.i1 ha)) (Nat.ne_of_gt (Nat.lt_trans L.i2 ha)) e3⟩
  | succ k ih =>
    intro i h tk c acc as hk hi hst hkeep hS hacc hal hG
    have hlt : i < kvs.length := by omega
    obtain ⟨⟨kk, x⟩, hx⟩ : ∃ p, kvs[i]? = some p := ⟨kvs[i], List.getElem?_eq_getElem hlt⟩
    obtain ⟨key, hx1, hy1, hkey⟩ := hkv i kk x hx
    have hsz : acc.size = i := by rw [← Array.length_toList, hacc, List.length_map, hal]
    have hSl : S < h.objs.size := Heap.lt_size hS
    refine codeAny_builtin PySem.F.entry_extend_loop ?_
    rw [Around.under_plainId PySem.F.plain_extend_loop _]
    show wpAny _ A.in1 (pyNext (.ref z) >>= _) _ _ _
    refine wpAny_bind (zst_item (s := { s with heap := h, toks := tk }) D hst hSl hx1 hy1 fun h' hst' ht hkp => ?_)
    dsimp only at ht hkp ⊢
    have hS' := hkp S _ (Nat.ne_of_gt L.z) (Nat.ne_of_gt L.to') (Nat.ne_of_gt L.i1) (Nat.ne_of_gt L.i2) hS
    have up : ∀ b o, b ≠ S → h'.get? b = some o → (h'.update S (Obj.mapSeq (·.push (Value.ref h.objs.size)))).get? b = some o := fun b o hb e => (Heap.get?_update_other _ _ (Ne.symm hb)).trans e
    show wpAny _ A.in1 (updateSeq S (·.push (Value.ref h.objs.size)) >>= _) _ _ _
    refine wpAny_bind ?_
    refine wpAny_updateSeq hS' rfl (wpAny_pure ⟨plainId_quiet PySem.F.plain_extend_loop _, ih (i + 1) _ tk _ (acc.push (Value.ref h.objs.size)) (as ++ [h.objs.size]) (by omega) hlt (hst'.keep (Nat.ne_of_lt L.z) (Nat.ne_of_lt L.ti) (Nat.ne_of_lt L.to') (Nat.ne_of_lt L.i1) (Nat.ne_of_lt L.i2) (Nat.ne_of_lt L.l1) (Nat.ne_of_lt L.l2) up)
      (fun b o h1 h2 h3 h4 h5 e => up b o h1 (hkp b o h2 h3 h4 h5 (hkeep b o h1 h2 h3 h4 h5 e))) (Heap.get?_update_self _ hS' rfl) (by rw [Array.toList_push, hacc, List.map_append]; rfl) (by rw [List.length_append, hal]; rfl) ⟨?_, ?_, ?_⟩⟩) (by rw [hsz]; omega) (by show (acc.push (Value.ref h.objs.size)).size ≤ sizeLine + 1; rw [Array.size_push, hsz]; omega)
    · refine List.pairwise_append.mpr ⟨hG.rise, List.pairwise_singleton _ _, fun a ha b hb => ?_⟩
      rw [List.mem_singleton.mp hb]
      exact hG.there ha
    · intro a ha
      rcases List.mem_append.mp ha with ha | ha
      · exact hG.above a ha
      · rw [List.mem_singleton.mp ha]; exact hSl
    · intro j b hj
      rcases Nat.lt_trichotomy j as.length with h1 | h1 | h1
      · rw [List.getElem?_append_left h1] at hj
        obtain ⟨key', k', x', e1, e2, e3⟩ := hG.pairs j b hj
        have hb := hG.above b (List.mem_of_getElem? hj)
        exact ⟨key', k', x', e1, e2, up b _ (Nat.ne_of_gt hb) (hkp b _ (Nat.ne_of_gt (Nat.lt_trans L.z hb)) (Nat.ne_of_gt (Nat.lt_trans L.to' hb)) (Nat.ne_of_gt (Nat.lt_trans L.i1 hb)) (Nat.ne_of_gt (Nat.lt_trans L.i2 hb)) e3)⟩
      · subst h1
        have hb : h.objs.size = b := by simpa using hj
        subst hb
        exact ⟨key, kk, x, by rw [hal]; exact hx, hkey, up _ _ (Nat.ne_of_gt hSl) ht⟩
      · have hnone : (as ++ [h.objs.size])[j]? = none := List.getElem?_eq_none (by rw [List.length_append, List.length_singleton]; omega)
        rw [hnone] at hj; cases hj
theorem lz_extend (hh : A.handled = none) (D : ZipApart z TI TO i1 i2 l1 l2) (L : Below z TI TO i1 i2 l1 l2 S) (hz : IsZip s.heap z TI TO .none) (hst : ZSt s.heap z TI TO i1 i2 l1 l2 S xs ys 0) (hkv : ∀ (i : Nat) (k : Key) (x : Value), kvs[i]? = some (k, x) → ∃ key, xs[i]? = some key ∧ ys[i]? = some x ∧ (mixKind prog w).is k key = true) (hlen : kvs.length = min xs.size ys.size) (hn : kvs.length ≤ sizeLine) (res : Value) (c₀ : Nat) (hS : s.heap.get? S = some { cls := .type "list", data := .seq #[] c₀ })
    (hR : ∀ h' tk acc c as, (∀ b o, b ≠ S → b ≠ z → b ≠ TO → b ≠ i1 → b ≠ i2 → s.heap.get? b = some o → h'.get? b = some o) → h'.get? S = some { cls := .type "list", dict := none, data := .seq acc c, slots := #[] } → as.length = kvs.length → KdxG (mixKind prog w) kvs S h' as →
      acc.toList = as.map Value.ref → R (.ok (.ret res)) { s with heap := h', toks := tk }) :
    wpAny (model prog w) A.in1 (Builtin.List.listExtendWith (.ref S) (.ref z) res)
      (fun fin s' => match fin with | .done f => R (.ok f) s' | .again c' => c'.quiet = true ∧ codeAny (model prog w) A c' R s') (fun e s' => R (.error e) s') s := by
  have hT : s.TypeIs (.ref z) "zip" := ⟨_, hz, rfl⟩
  unfold Builtin.List.listExtendWith
  refine wpAny_bind (wpAny_typeOf (T := "zip") hT ?_)
  have h1 : Builtin.List.listSameRef (.ref S) (.ref z) = false := by simp [Builtin.List.listSameRef, Nat.ne_of_gt L.z]
  have h2 : (Value.type "zip" == Value.type "list") = false := by decide
  have h3 : (Value.type "zip" == Value.type "tuple") = false := by decide
  simp only [h1, h2, h3, Bool.or_false, Bool.false_eq_true, if_false]
  refine wpAny_bind (wpAny_pyIter_zip hz ?_)
  refine wpAny_bind (wpAny_holding ?_)
  unfold Builtin.List.listLengthHint
  refine wpAny_bind (wpAny_specialOf hT nolen_zip ?_)
  show wpAny _ A.in1 (specialOf (Value.ref z) (Str.ofString "__length_hint__") >>= _) _ _ _
  refine wpAny_bind (wpAny_specialOf hT nohint_zip ?_)
  refine wpAny_pure ?_
  show wpAny _ A.in1 (rule "list.extend.makes-room" >>= fun _ => Builtin.List.listTouch (.ref S) >>= fun _ =>
    again (.builtin "list.extend.loop" ⟨[.ref S, .ref z, res], []⟩)) _ _ _
  refine wpAny_bind (wpAny_rule ?_)
  refine wpAny_bind ?_
  show wpAny _ A.in1 (updateSeq S (·.push .none) >>= fun _ => updateSeq S (·.pop)) _ _ _
  refine wpAny_bind (wpAny_updateSeq hS rfl ?_)
  have hS₂ := Heap.get?_update_self (Obj.mapSeq (·.push Value.none)) hS rfl
  refine wpAny_updateSeq (hz := by seq_fits) hS₂ rfl ?_
  have hS₃ := Heap.get?_update_self (Obj.mapSeq (·.pop)) hS₂ rfl
  have oth : ∀ b o, b ≠ S → s.heap.get? b = some o → ((s.heap.update S (Obj.mapSeq (·.push Value.none))).update S (Obj.mapSeq (·.pop))).get? b = some o :=
    fun b o hb e => (Heap.get?_update_other _ _ (Ne.symm hb)).trans ((Heap.get?_update_other _ _ (Ne.symm hb)).trans e)
  exact wpAny_pure ⟨plainId_quiet PySem.F.plain_extend_loop _, lz_loop (s := s) (h₁ := s.heap) hh D L hkv hlen hn res hR kvs.length 0 _ s.toks _ #[] [] (Nat.sub_zero _) (Nat.zero_le _)
    (hst.keep (Nat.ne_of_lt L.z) (Nat.ne_of_lt L.ti) (Nat.ne_of_lt L.to') (Nat.ne_of_lt L.i1) (Nat.ne_of_lt L.i2) (Nat.ne_of_lt L.l1) (Nat.ne_of_lt L.l2) oth) (fun b o h1 _ _ _ _ e => oth b o h1 e) hS₃ rfl rfl ⟨List.Pairwise.nil, (fun _ ha => nomatch ha), (fun j a hj => by simp at hj)⟩⟩
theorem lz_init (hh : A.handled = none) (D : ZipApart z TI TO i1 i2 l1 l2) (L : Below z TI TO i1 i2 l1 l2 S) (hz : IsZip s.heap z TI TO .none) (hst : ZSt s.heap z TI TO i1 i2 l1 l2 S xs ys 0) (hkv : ∀ (i : Nat) (k : Key) (x : Value), kvs[i]? = some (k, x) → ∃ key, xs[i]? = some key ∧ ys[i]? = some x ∧ (mixKind prog w).is k key = true) (hlen : kvs.length = min xs.size ys.size) (hn : kvs.length ≤ sizeLine) (hS : s.heap.get? S = some { cls := .type "list", data := .seq #[] })
    (hR : ∀ h' tk acc c as, (∀ b o, b ≠ S → b ≠ z → b ≠ TO → b ≠ i1 → b ≠ i2 → s.heap.get? b = some o → h'.get? b = some o) → h'.get? S = some { cls := .type "list", dict := none, data := .seq acc c, slots := #[] } → as.length = kvs.length → KdxG (mixKind prog w) kvs S h' as →
      acc.toList = as.map Value.ref → R (.ok (.ret .none)) { s with heap := h', toks := tk }) :
    wpAny (model prog w) A.in1 (Builtin.«list.__init__» ⟨[.ref S, .ref z], []⟩)
      (fun fin s' => match fin with | .done f => R (.ok f) s' | .again c' => c'.quiet = true ∧ codeAny (model prog w) A c' R s') (fun e s' => R (.error e) s') s := by
  show wpAny _ _ (do let old ← Builtin.List.listItems (.ref S); Builtin.List.listUpdate (.ref S) (fun _ => #[]); letGo old.toList.reverse; Builtin.List.listExtendWith (.ref S) (.ref z) .none) _ _ s
  refine wpAny_bind ?_
  unfold Builtin.List.listItems
  refine wpAny_bind (wpAny_seqItems hS rfl (wpAny_pure ?_))
  show wpAny _ _ (updateSeq S (fun _ => #[]) >>= fun _ => letGo (#[] : Array Value).toList.reverse >>= fun _ => Builtin.List.listExtendWith (.ref S) (.ref z) .none) _ _ s
  refine wpAny_bind (wpAny_updateSeq hS rfl ?_)
  have hS₂ := Heap.get?_update_self (Obj.mapSeq (fun _ => (#[] : Array Value))) hS rfl
  have oth : ∀ b o, b ≠ S → s.heap.get? b = some o → (s.heap.update S (Obj.mapSeq (fun _ => (#[] : Array Value)))).get? b = some o :=
    fun b o hb e => (Heap.get?_update_other _ _ (Ne.symm hb)).trans e
  refine wpAny_bind (wpAny_letGo ?_)
  refine lz_extend (kvs := kvs) hh D L (oth _ _ (Nat.ne_of_lt L.z) hz) (hst.keep (Nat.ne_of_lt L.z) (Nat.ne_of_lt L.ti) (Nat.ne_of_lt L.to') (Nat.ne_of_lt L.i1) (Nat.ne_of_lt L.i2) (Nat.ne_of_lt L.l1) (Nat.ne_of_lt L.l2) oth) hkv hlen hn .none _ hS₂ (fun h' tk acc c as hk hS' hl hG hacc => ?_)
  exact hR h' tk acc c as (fun b o hb h2 h3 h4 h5 e => hk b o hb h2 h3 h4 h5 (oth b o hb e)) hS' hl hG hacc
theorem lz_call {Q : Value → Shared → Prop} (hh : A.handled = none) (D : ZipApart z TI TO i1 i2 l1 l2) (L : Below z TI TO i1 i2 l1 l2 s.heap.objs.size) (hz : IsZip s.heap z TI TO .none) (hst : ZSt s.heap z TI TO i1 i2 l1 l2 s.heap.objs.size xs ys 0) (hkv : ∀ (i : Nat) (k : Key) (x : Value), kvs[i]? = some (k, x) → ∃ key, xs[i]? = some key ∧ ys[i]? = some x ∧ (mixKind prog w).is k key = true) (hlen : kvs.length = min xs.size ys.size) (hn : kvs.length ≤ sizeLine)
    (hQ : ∀ h' tk acc c as, (∀ b o, b ≠ z → b ≠ TO → b ≠ i1 → b ≠ i2 → s.heap.get? b = some o → h'.get? b = some o) → h'.get? s.heap.objs.size = some { cls := .type "list", dict := none, data := .seq acc c, slots := #[] } → as.length = kvs.length → KdxG (mixKind prog w) kvs s.heap.objs.size h' as →
      acc.toList = as.map Value.ref → Q (.ref s.heap.objs.size) { s with heap := h', toks := tk }) :
    wpAny (model prog w) A (call (.type "list") [.ref z]) Q E s := by
  refine callType_codes (Q₁ := fun obj s₁ => obj = .ref s.heap.objs.size ∧ s₁ = { s with heap := s.heap.push { cls := .type "list", data := .seq #[] } }) PySem.F.called_list (PySem.F.typeCall_list_1 _) PySem.F.entry_list_init
    (code_list_new _ ⟨rfl, rfl⟩) fun obj s₁ h₁ => ?_
  obtain ⟨rfl, rfl⟩ := h₁
  have hS : (s.heap.push { cls := .type "list", data := .seq #[] }).get? s.heap.objs.size = some { cls := .type "list", data := .seq #[] } := Heap.get?_push_size _ rfl
  have old : ∀ b o, s.heap.get? b = some o → (s.heap.push { cls := .type "list", data := .seq #[] }).get? b = some o := fun b o e => Heap.get?_push_of_some _ e
  refine ⟨⟨_, hS, rfl⟩, PySem.F.args_list_init_2 _ _, lz_init (kvs := kvs) (A := A.in1) hh D L (old _ _ hz) (hst.keep (Nat.ne_of_lt L.z) (Nat.ne_of_lt L.ti) (Nat.ne_of_lt L.to') (Nat.ne_of_lt L.i1) (Nat.ne_of_lt L.i2) (Nat.ne_of_lt L.l1) (Nat.ne_of_lt L.l2) fun b o _ e => old b o e) hkv hlen hn hS (fun h' tk acc c as hk hS' hl hG hacc => ?_)⟩
  exact ⟨rfl, hQ h' tk acc c as (fun b o h2 h3 h4 h5 e => hk b o (Nat.ne_of_lt (Heap.lt_size e)) h2 h3 h4 h5 (old b o e)) hS' hl hG hacc⟩
end
end Y

namespace Y
open PySem PySem.Spec PyProof.Rows L2 PySem.W
/-- a heap's first n places -/
def Heap.upTo (h : Heap) (n : Nat) : Heap := { objs := h.objs.extract 0 n, life := h.life }
theorem upTo_size {h : Heap} {n : Nat} (hn : n ≤ h.objs.size) : (Heap.upTo h n).objs.size = n := by
  show (h.objs.extract 0 n).size = n
  rw [Array.size_extract]
  omega
theorem upTo_get {h : Heap} {n b : Nat} (hb : b < n) : (Heap.upTo h n).get? b = h.get? b := by
  unfold PySem.Heap.get?
  have e : (Heap.upTo h n).objs[b]? = h.objs[b]? := by
    show (h.objs.extract 0 n)[b]? = _
    rw [Array.getElem?_extract]
    by_cases hs : b < h.objs.size
    · rw [if_pos (by omega)]; simp
    · rw [if_neg (by omega), Array.getElem?_eq_none (by omega)]
  rw [e]
theorem upTo_up {h : Heap} {n b : Nat} {o : Obj} (e : (Heap.upTo h n).get? b = some o) (hn : n ≤ h.objs.size) : h.get? b = some o := by
  have hb := Heap.lt_size e
  rw [upTo_size hn] at hb
  rw [upTo_get hb] at e
  exact e
def zipKV (ks : List Str) (ys : List V) : List (Key × V) := (ks.zip ys).map fun p => (Sum.inr p.1, p.2)
def zipKU (ks : List Str) (us : List Value) : List (Key × Value) := (ks.zip us).map fun p => (Sum.inr p.1, p.2)
theorem kv_zip : ∀ (ks : List Str) {ys : List V} {us : List Value}, Vals ys us → KV (zipKV ks ys) (zipKU ks us)
  | [], ys, us, r => .nil
  | k :: ks, _, _, .nil => .nil
  | k :: ks, _, _, .cons r t => .cons ⟨rfl, r⟩ (kv_zip ks t)
theorem zipKU_get {ks : List Str} {us ws : List Value} (r : Vals (ks.map V.str) us) {P : Program} {w : World} {i : Nat} {k : Key} {x : Value} (h : (zipKU ks ws)[i]? = some (k, x)) : ∃ key, us.toArray[i]? = some key ∧ ws.toArray[i]? = some x ∧ (mixKind P w).is k key = true := by
  unfold zipKU at h
  rw [List.getElem?_map] at h
  cases e : (ks.zip ws)[i]? with
  | none => rw [e] at h; cases h
  | some p =>
    rw [e] at h
    rw [List.getElem?_zip_eq_some] at e
    obtain ⟨t, et⟩ := valS r e.1
    cases h
    exact ⟨_, by rw [List.getElem?_toArray]; exact et, by rw [List.getElem?_toArray]; exact e.2, mixKind_str P w p.1 t⟩
theorem zipKU_at {ks : List Str} {us ws : List Value} (r : Vals (ks.map V.str) us) {P : Program} {w : World} {i : Nat} {key v : Value} (h1 : us.toArray[i]? = some key) (h2 : ws.toArray[i]? = some v) : ∃ k, (zipKU ks ws)[i]? = some (k, v) ∧ (mixKind P w).is k key = true := by
  rw [List.getElem?_toArray] at h1 h2
  have hl := r.length
  have hi : i < ks.length := by
    have z := (List.getElem?_eq_some_iff.mp h1).1
    simp at hl
    omega
  have e1 : ks[i]? = some ks[i] := List.getElem?_eq_getElem hi
  obtain ⟨t, et⟩ := valS r e1
  rw [h1] at et
  cases et
  refine ⟨.inr ks[i], ?_, mixKind_str P w _ t⟩
  unfold zipKU
  rw [List.getElem?_map, (List.getElem?_zip_eq_some (z := (ks[i], v))).mpr ⟨e1, h2⟩]
  rfl
theorem zipKU_len {ks : List Str} {us ws : List Value} (r : Vals (ks.map V.str) us) : (zipKU ks ws).length = min us.toArray.size ws.toArray.size := by
  have hl := r.length
  simp at hl
  simp [zipKU, hl]
theorem below5 {n a b S : Nat} (hS : S = n + 5) (ha : a < n) (hb : b < n) : Below (n + 4) (n + 2) (n + 3) n (n + 1) a b S := by
  subst hS
  exact ⟨show (n + 4 : Nat) < n + 5 by omega, show (n + 2 : Nat) < n + 5 by omega, show (n + 3 : Nat) < n + 5 by omega, show (n : Nat) < n + 5 by omega, show (n + 1 : Nat) < n + 5 by omega, show (a : Nat) < n + 5 by omega, show (b : Nat) < n + 5 by omega⟩
theorem apart5 {n b : Nat} (hb : b < n) : b < n + 5 ∧ b ≠ n + 4 ∧ b ≠ n + 3 ∧ b ≠ n ∧ b ≠ n + 1 := ⟨by omega, by omega, by omega, by omega, by omega⟩
section
variable {X : Cx} {e e2 : Expr} {ta : TA} {p p2 pos2 pos : Pos}
/-- list(zip(xs, ys)) -/
def tListZip (K : PySem.W.Frag) (ta : TA) : TE := fun σ H Q => ta σ H fun vs H1 => ∃ (a b : Addr) (ks : List Str) (ys : List V), vs = [.ref a, .ref b] ∧ SqL K H1 a (ks.map V.str) ∧ SqL K H1 b ys ∧
  ∀ (H' : Hp) (p : Addr) (ts : List Addr), (∀ b o, H1 b = some o → H' b = some o) → H1 p = none → (∀ t ∈ ts, H1 t = none) → p ∉ ts → H' p = some (.lst (ts.map V.ref)) → Paired (fun (t : Addr) (q : Key × V) => H' t = some (.tup [kV q.1, q.2])) ts (zipKV ks ys) → Q (.ref p) H'
theorem pe_listZip (hc : X.calm = true) (hg : Gl X "list") (hm : X.mg "list" = none) (hg2 : Gl X "zip") (hm2 : X.mg "zip" = none) (ha : PA X [e, e2] ta)
    (hs : starEach [.Call (.Name "zip" p2) [e, e2] [] pos2] X.env = (false, eval (.Call (.Name "zip" p2) [e, e2] [] pos2) X.env) :: starEach [] X.env := by rfl)
    (hs2 : starEach [e, e2] X.env = (false, eval e X.env) :: starEach [e2] X.env := by rfl) (hpl : (backTo pos2 (starEach [e2] X.env)).any (·.1) = false := by rfl) :
    PE X (.Call (.Name "list" p) [.Call (.Name "zip" p2) [e, e2] [] pos2] [] pos) (tListZip X.K ta) := by
  refine ⟨fun pins s σ H Q I hyp => ?_⟩
  refine wpAny_Call_Name_kw (ld_blt I hg hm (by decide +kernel : bootBuiltins "list" = some (.type "list")) ?_)
  refine PyProof.Rows.callWith_type1 ?_ hs rfl
  rw [hs]
  show wpAny _ _ (spliced ((false, eval (.Call (.Name "zip" p2) [e, e2] [] pos2) X.env) :: backTo pos (starEach [] X.env))) _ _ s
  refine Calls.spliced_cons ?_
  refine Call_ (ld_blt I hg2 hm2 PyProof.Rows.boot_zip (PyProof.Rows.callWith_type1 (thn (ha.run pos2 pins s σ H _ I hyp) fun us s1 ⟨vs, H1, I1, rvs, a, b, ks, ys, ex, hqx, hqy, q⟩ => ?_) hs2 hpl))
  subst ex
  cases rvs with
  | cons r0 rest =>
    cases rest with
    | cons r1 rest =>
      cases rest
      cases r0
      cases r1
      obtain ⟨its, rv, pl1, hz1⟩ := I1.list hqx
      obtain ⟨its2, rv2, pl2, hz2⟩ := I1.list hqy
      have D := PySem.W.ktu_apart s1.heap.objs.size a b pl1.lt pl2.lt
      refine call_zip_2 pl1.isList pl2.isList fun h' hz hTI hTO h1 h2 hsz hk => ?_
      refine Calls.spliced_nil ?_
      have lta := pl1.lt
      have ltb := pl2.lt
      have hlen := zipKU_len (us := its) (ws := its2) (ks := ks) rv
      have hn : (zipKU ks its2).length ≤ sizeLine := by
        rw [← Paired.length (kv_zip ks rv2)]
        have : (zipKV ks ys).length ≤ ys.length := by simp [zipKV]; omega
        omega
      have L : Below (s1.heap.objs.size + 4) (s1.heap.objs.size + 2) (s1.heap.objs.size + 3) s1.heap.objs.size (s1.heap.objs.size + 1) a b h'.objs.size := by
        exact below5 hsz lta ltb
      refine lz_call (s := { s1 with heap := h' }) (kvs := zipKU ks its2) (I1.ok.hd hc) D L hz ⟨hTI, h1, h2, pl1.isList.at fun o e => hk _ o e, pl2.isList.at fun o e => hk _ o e, .inl ⟨hz, _, _, hTO⟩⟩ (fun i k x hx => zipKU_get rv hx) hlen hn fun h'' tk acc c as hk' hS hl hG hacc => ?_
      have hSz : h'.objs.size ≤ h''.objs.size := Nat.le_of_lt (Heap.lt_size hS)
      have keep1 : ∀ b o, s1.heap.get? b = some o → (Heap.upTo h'' h'.objs.size).get? b = some o := fun b o eb => by
        obtain ⟨n0, n1, n2, n3, n4⟩ := apart5 (Heap.lt_size eb)
        rw [upTo_get (by rw [hsz]; exact n0)]
        exact hk' b o n1 n2 n3 n4 (hk b o eb)
      have I2 : Inv X pins σ H1 { s1 with heap := Heap.upTo h'' h'.objs.size } := I1.kept (t' := s1.toks) keep1
      have esz : (Heap.upTo h'' h'.objs.size).objs.size = h'.objs.size := upTo_size hSz
      have hS2 : h''.get? (Heap.upTo h'' h'.objs.size).objs.size = some { cls := .type "list", dict := none, data := .seq acc c, slots := #[] } := by rw [esz]; exact hS
      have hG2 : KdxG (mixKind X.prog X.w) (zipKU ks its2) (Heap.upTo h'' h'.objs.size).objs.size h'' as := by rw [esz]; exact hG
      obtain ⟨H', k1, k2, k3, k4, k5, k6, J⟩ := LiI.items_laid (s := { s1 with heap := Heap.upTo h'' h'.objs.size }) (h' := h'') (tk := tk) I2 (by rw [Paired.length (kv_zip ks rv2)]; exact hn) (kv_zip ks rv2) (fun b o eb => upTo_up eb hSz) hS2 hl hG2 hacc
      rw [show ({ s1 with heap := Heap.upTo h'' h'.objs.size } : Shared).heap.objs.size = h'.objs.size from esz] at k2 k4 k5
      exact ⟨.ref _, H', J, rfl, q H' _ as k1 k2 k3 k4 k5 k6⟩
/-- dict(zip(xs, ys)) -/
def tDictZip (K : PySem.W.Frag) (ta : TA) : TE := fun σ H Q => ta σ H fun vs H1 => ∃ (a b : Addr) (ks : List Str) (ys : List V), vs = [.ref a, .ref b] ∧ SqL K H1 a (ks.map V.str) ∧ SqL K H1 b ys ∧
  ∀ p, H1 p = none → Q (.ref p) (upd H1 p (.dK (mergeK [] (zipKV ks ys))))
theorem pe_dictZip (hc : X.calm = true) (hg : Gl X "dict") (hm : X.mg "dict" = none) (hg2 : Gl X "zip") (hm2 : X.mg "zip" = none) (ha : PA X [e, e2] ta)
    (hs : starEach [.Call (.Name "zip" p2) [e, e2] [] pos2] X.env = (false, eval (.Call (.Name "zip" p2) [e, e2] [] pos2) X.env) :: starEach [] X.env := by rfl)
    (hs2 : starEach [e, e2] X.env = (false, eval e X.env) :: starEach [e2] X.env := by rfl) (hpl : (backTo pos2 (starEach [e2] X.env)).any (·.1) = false := by rfl) :
    PE X (.Call (.Name "dict" p) [.Call (.Name "zip" p2) [e, e2] [] pos2] [] pos) (tDictZip X.K ta) := by
  refine ⟨fun pins s σ H Q I hyp => ?_⟩
  refine wpAny_Call_Name_kw (ld_blt I hg hm (by decide +kernel : bootBuiltins "dict" = some (.type "dict")) ?_)
  refine PyProof.Rows.callWith_type1 ?_ hs rfl
  rw [hs]
  show wpAny _ _ (spliced ((false, eval (.Call (.Name "zip" p2) [e, e2] [] pos2) X.env) :: backTo pos (starEach [] X.env))) _ _ s
  refine Calls.spliced_cons ?_
  refine Call_ (ld_blt I hg2 hm2 PyProof.Rows.boot_zip (PyProof.Rows.callWith_type1 (thn (ha.run pos2 pins s σ H _ I hyp) fun us s1 ⟨vs, H1, I1, rvs, a, b, ks, ys, ex, hqx, hqy, q⟩ => ?_) hs2 hpl))
  subst ex
  cases rvs with
  | cons r0 rest =>
    cases rest with
    | cons r1 rest =>
      cases rest
      cases r0
      cases r1
      obtain ⟨its, rv, pl1, hz1⟩ := I1.list hqx
      obtain ⟨its2, rv2, pl2, hz2⟩ := I1.list hqy
      have D := PySem.W.ktu_apart s1.heap.objs.size a b pl1.lt pl2.lt
      refine call_zip_2 pl1.isList pl2.isList fun h' hz hTI hTO h1 h2 hsz hk => ?_
      refine Calls.spliced_nil ?_
      have hlen := zipKU_len (us := its) (ws := its2) (ks := ks) rv
      have hn : (zipKU ks its2).length ≤ sizeLine := by
        rw [← Paired.length (kv_zip ks rv2)]
        have : (zipKV ks ys).length ≤ ys.length := by simp [zipKV]; omega
        omega
      refine PySem.call_dict_pairs (s := { s1 with heap := h' }) (knd := mixKind X.prog X.w) (kvs := zipKU ks its2) (PySem.PairArg.zip _ _ _ _ _ a b D its.toArray its2.toArray) (I1.ok.hd hc) ⟨hz, hTI, ⟨_, _, hTO⟩, h1, h2, pl1.isList.at fun o e => hk _ o e, pl2.isList.at fun o e => hk _ o e⟩ ⟨hlen, fun i key v ⟨e1, e2⟩ => zipKU_at rv e1 e2⟩ (by rw [← hlen]; exact hn) fun h'' tk hd' hk' => ?_
      have hle : s1.heap.objs.size ≤ h'.objs.size := by omega
      have hbig : (h'.objs.size == sysModules) = false := beq_eq_false_iff_ne.mpr (Nat.ne_of_gt (Nat.lt_of_lt_of_le I1.big hle))
      have hlen2 : (mergeK [] (zipKV ks ys)).length ≤ sizeLine := by
        refine Nat.le_trans (length_mergeK _ []) ?_
        rw [List.length_nil, Nat.zero_add, Paired.length (kv_zip ks rv2)]
        exact hn
      exact ⟨.ref h'.objs.size, upd H1 h'.objs.size (.dK (mergeK [] (zipKV ks ys))), I1.laid (t' := tk) (fun b o eb => by
        obtain ⟨n0, n1, n2, n3, n4⟩ := apart5 (Heap.lt_size eb)
        refine hk' b o (fun hm => ?_) (hk b o eb)
        simp only [List.mem_cons, List.not_mem_nil, or_false] at hm
        rcases hm with z | z | z | z
        · exact n1 z
        · exact n2 z
        · exact n3 z
        · exact n4 z) hle (show ObjOk X.prog X.w _ _ _ (.dK (mergeK [] (zipKV ks ys))) from ⟨hlen2, hbig, merged [] (zipKU ks its2), KV.merge (kv_zip ks rv2) .nil, hd'⟩), rfl, q _ (I1.hok.fresh hle)⟩
end
variable {K : PySem.W.Frag}
section
variable {Γ : GG} {O : OO} {P : Sl → OO → Prop}
def zipKD (ks : List Str) (ds : List D) : List (Str × D) := ks.zip ds
theorem DenK.zip {G : Hp} : ∀ (ks : List Str) {ys : List V} {ds : List D}, Dens K G ys ds → DenK K G (zipKV ks ys) (ks.zip ds)
  | [], ys, ds, h => .nil
  | k :: ks, ys, [], h => by obtain rfl := h.nil_of; exact .nil
  | k :: ks, ys, d :: ds, h => by
    obtain ⟨x, r, rfl, h1, h2⟩ := h.uncons
    exact .cons h1 (DenK.zip ks h2)
theorem wE_dictZip (m : Nat) {t : TA} (h : wA K t Γ O fun ss O1 => ∃ (s s' : Sl) (ks : List Str) (ds : List D), ss = [s, s'] ∧ SeqL O1 s (ks.map D.str) ∧ SeqL O1 s' ds ∧ ∀ a, P (.p m a) ((m, a, .ok (putAll [] (ks.zip ds))) :: O1)) : wE K (tDictZip K t) Γ O P := fun σ H w sl Q q =>
  h σ H w sl _ fun vs H1 ss O1 ⟨s, s', ks, ds, e, hq, hq', p⟩ s1 w1 v1 => by
    subst e
    obtain ⟨v, v', rfl, h3, h4⟩ := sls2 v1
    obtain ⟨a, xs, rfl, h1, h2⟩ := hq.read w1 h3
    obtain ⟨b, ys, rfl, g1, g2⟩ := hq'.read w1 h4
    have e := h2.strs
    subst e
    exact ⟨a, b, ks, ys, rfl, SqL.of h1, SqL.of g1, fun l hl => q _ _ _ _ (p l) (s1.trans (hid_cons_new rfl hl)) (w1.newK m hl (DenK.merge .nil (DenK.zip ks g2))) rfl⟩
theorem wE_listZip {t : TA} (h : wA K t Γ O fun ss O1 => ∃ (s s' : Sl) (ks : List Str) (ds : List D), ss = [s, s'] ∧ SeqL O1 s (ks.map D.str) ∧ SeqL O1 s' ds ∧ P (.d (.lst (itemsD (ks.zip ds)))) O1) : wE K (tListZip K t) Γ O P := fun σ H w sl Q q =>
  h σ H w sl _ fun vs H1 ss O1 ⟨s, s', ks, ds, e, hq, hq', p⟩ s1 w1 v1 => by
    subst e
    obtain ⟨v, v', rfl, h3, h4⟩ := sls2 v1
    obtain ⟨a, xs, rfl, h1, h2⟩ := hq.read w1 h3
    obtain ⟨b, ys, rfl, g1, g2⟩ := hq'.read w1 h4
    have e := h2.strs
    subst e
    refine ⟨a, b, ks, ys, rfl, SqL.of h1, SqL.of g1, fun H' l ts hk hl ht nl hL hp => ?_⟩
    have dk := DenK.zip ks g2
    have st : PStep O1 H1 H' := ⟨fun b o hb => by
      obtain ⟨e1, e2⟩ := hid_some hb
      exact hid_of (hk b o e1) e2, fun b hb => by
      obtain ⟨u, eu⟩ := w1.dom hb
      rw [eu]; exact hk b u eu⟩
    have w2 := w1.step st
    obtain ⟨p1, p2⟩ := paired_at hp
    refine q _ H' _ O1 p (s1.trans st.same) w2 (.lst (hid_of hL (w1.fresh hl)) (by simp [itemsD, p1, dk.len]) fun i x d hx hd => ?_)
    rw [List.getElem?_map] at hx
    unfold itemsD at hd
    rw [List.getElem?_map] at hd
    cases e1 : ts[i]? with
    | none => rw [e1] at hx; cases hx
    | some t =>
      cases e2 : (ks.zip ds)[i]? with
      | none => rw [e2] at hd; cases hd
      | some qq =>
        obtain ⟨k, dv⟩ := qq
        rw [e1] at hx; rw [e2] at hd
        cases hx; cases hd
        obtain ⟨u, hu, hden⟩ := dk.get e2
        have hT := p2 i t _ e1 hu
        have tm : t ∈ ts := List.mem_of_getElem? e1
        exact .pair (hid_of hT (w1.fresh (ht t tm))) (.str k) (hden.mono st.same)
end
end Y

/-! Y: the rules whose readings speak of the written part, with that part named (within a comprehension the context is another, its written part the same). -/
namespace Y
open PySem PySem.Spec PyProof.Rows L2
section
variable {X : Cx} (K : PySem.W.Frag)
theorem inK (h : X.K = K := by rfl) : OpR X (compareOp .In) (rIn K false) := h ▸ op_in_seq
theorem notInK (h : X.K = K := by rfl) : OpR X (compareOp .NotIn) (rIn K true) := h ▸ op_notIn_seq
theorem ixK (h : X.K = K := by rfl) : IxR X (rIx K) := h ▸ ix_seq
theorem slLK (h : X.K = K := by rfl) : SlR X (rSlL K) := h ▸ sl_list
theorem slTK (h : X.K = K := by rfl) : SlR X (rSlA K) := h ▸ sl_tupA
theorem slQK (h : X.K = K := by rfl) : SlR X (fun x lo hi H Q => rSlL K x lo hi H Q ∨ rSlA K x lo hi H Q) := h ▸ sl_list.or sl_tupA
theorem isiK (h : X.K = K := by rfl) : CallR X (.builtin "isinstance") (rIsi K) := h ▸ call_isi
theorem isiTK (h : X.K = K := by rfl) : CallR X (.builtin "isinstance") (rIsiT K) := h ▸ call_isiT
theorem allK (hc : X.calm = true) (h : X.K = K := by rfl) : CallR X (.builtin "all") (rAll K) := h ▸ cr_all hc
theorem anyK (hc : X.calm = true) (h : X.K = K := by rfl) : CallR X (.builtin "any") (rAny K) := h ▸ cr_any hc
theorem sortedSK (h : X.K = K := by rfl) : CallR X (.builtin "sorted") (rSortedS K) := h ▸ cr_sortedS
theorem sortedPSK (h : X.K = K := by rfl) : CallR X (.builtin "sorted") (rSortedPS2 K) := h ▸ cr_sortedPS2
def rLenSeq (K : PySem.W.Frag) : List V → Hp → VK → Prop := fun xs H Q => ∃ p ys, xs = [.ref p] ∧ (SqL K H p ys ∨ SqT K H p ys) ∧ Q (.int ys.length) H
theorem lenSeqK (h : X.K = K := by rfl) : CallR X (.builtin "len") (rLenSeq K) := h ▸ call_len_seq
def rListOf (K : PySem.W.Frag) : List V → Hp → VK → Prop := fun xs H Q => ∃ p ys, xs = [.ref p] ∧ (SqL K H p ys ∨ SqT K H p ys) ∧ ∀ l, H l = none → Q (.ref l) (upd H l (.lst ys))
theorem listOfK (h : X.K = K := by rfl) : CallR X (.type "list") (rListOf K) := h ▸ call_list_of
theorem tupRK (h : X.K = K := by rfl) : CallR X (.type "tuple") (rTupR K) := h ▸ call_tupR
theorem dPK (hc : X.calm = true) (h : X.K = K := by rfl) : CallR X (.type "dict") (rDictP K) := h ▸ call_dP hc
theorem indexK (h : X.K = K := by rfl) : MtR X "list.index" (rIndex K) := h ▸ mt_index
theorem tixK (h : X.K = K := by rfl) : MtR X "tuple.index" (rTIx K) := h ▸ mt_tix
theorem eqDK (hu : X.A.units + 64 < cLine) (h : X.K = K := by rfl) : OpR X (compareOp .Eq) (rEqD K) := h ▸ op_eqD hu
theorem neDK (hu : X.A.units + 64 < cLine) (h : X.K = K := by rfl) : OpR X (compareOp .NotEq) (rNeD K) := h ▸ op_neD hu
variable {e e2 o value : Expr} {es : List Expr} {te tv to : TE} {ta t : TA} {f : Str} {pos pos' p p2 pos2 tpos : Pos} {T name id : String}
theorem fldK (he : PE X e te) (hb : attributeBase e f X.env (eval e X.env) = eval e X.env) (h : X.K = K := by rfl) : PE X (.Attribute e f pos) (tFld K te f) := h ▸ pe_fld he hb
theorem putFldK (ha : PE X o te) (hv : PE X value tv) (hs : swapsWith value (some (.Attribute o f pos')) pos.line X.env = pure false) (h : X.K = K := by rfl) : PS X (.Assign [.Attribute o f pos'] value pos) (sFld K te tv f) := h ▸ ps_fld ha hv hs
theorem tupK {k : Nat} {u : TGs} (n : Nat) (hc : X.calm = true) (h : PGs X es u) (hn : (assignEach es X.env).length = n := by rfl) (hst : (assignEach es X.env).findIdx? (·.1) = none := by rfl) (hk : X.K = K := by rfl) : PG X (.Tuple es k pos) (gTup K n u) := hk ▸ pg_tup hc h hn hst
theorem seqK {tg l : Expr} (hl : PE X l te) (h : X.K = K := by rfl) : PI X tg l (iSeqY K te) := h ▸ pi_seqY hl
theorem enumK {elts : List Expr} {kk : Nat} (hg : Gl X "enumerate") (hm : X.mg "enumerate" = none) (ha : PA X [e] ta) (hs : starEach [e] X.env = [(false, eval e X.env)] := by rfl) (h : X.K = K := by rfl) :
    PI X (.Tuple elts kk tpos) (.Call (.Name "enumerate" p) [e] [] pos) (iEnumB K ta) := h ▸ pi_enumB hg hm ha hs
theorem zipK {elts : List Expr} {kk : Nat} (hg : Gl X "zip") (hm : X.mg "zip" = none) (ha : PA X [e, e2] ta)
    (hs : starEach [e, e2] X.env = (false, eval e X.env) :: starEach [e2] X.env := by rfl) (hpl : (backTo pos (starEach [e2] X.env)).any (·.1) = false := by rfl) (h : X.K = K := by rfl) :
    PI X (.Tuple elts kk tpos) (.Call (.Name "zip" p) [e, e2] [] pos) (iZipB K ta) := h ▸ pi_zipB hg hm ha hs hpl
theorem bmK {apos cpos : Pos} {name : Str} {r : V → List V → Hp → VK → Prop} (pa : PlainAttrs T) (slot : Slot T name id) (hty : typeOf (.builtin id) = pure (.type "method_descriptor")) (hm : MtR X id r) (ho : PE X o to) (ha : PA X (e :: es) t)
    (hbase : attributeBase o name X.env (eval o X.env) = eval o X.env := by rfl)
    (hfew : ((backTo cpos (starEach (e :: es) X.env)).all (fun x => !x.1) && (backToKw cpos (keywordEach [] X.env)).all (fun x => x.1.isSome)
      && decide ((e :: es).length + ([] : List Keyword).length + (if ([] : List Keyword).isEmpty then 0 else 1) < 30)) = true := by rfl)
    (hline : (apos.endLine == cpos.line) = true := by rfl) (hs : starEach (e :: es) X.env = (false, eval e X.env) :: starEach es X.env := by rfl) (hplain : (backTo cpos (starEach es X.env)).any (·.1) = false := by rfl) (h : X.K = K := by rfl) :
    PE X (.Call (.Attribute o name apos) (e :: es) [] cpos) (tBM K T r to t) := h ▸ pe_bm pa slot hty hm ho ha hbase hfew hline hs hplain
theorem revK {k : Nat} {p1 p3 : Pos} (he : PE X e te) (h : X.K = K := by rfl) : PE X (.Subscript e (.Slice none none (some (.UnaryOp .USub (.Constant (.int 1) k p1) p2)) p3) pos) (tRevL K te) := h ▸ pe_revL he
theorem starK (he : PE X e te) (hr : PA X es t) (hs : starEach (.Starred e p :: es) X.env = (true, eval e X.env) :: starEach es X.env := by rfl) (h : X.K = K := by rfl) : PA X (.Starred e p :: es) (StX.tStar K te t) := h ▸ StX.pa_star he hr hs
theorem listZipK (hc : X.calm = true) (hg : Gl X "list") (hm : X.mg "list" = none) (hg2 : Gl X "zip") (hm2 : X.mg "zip" = none) (ha : PA X [e, e2] ta)
    (hs : starEach [.Call (.Name "zip" p2) [e, e2] [] pos2] X.env = (false, eval (.Call (.Name "zip" p2) [e, e2] [] pos2) X.env) :: starEach [] X.env := by rfl)
    (hs2 : starEach [e, e2] X.env = (false, eval e X.env) :: starEach [e2] X.env := by rfl) (hpl : (backTo pos2 (starEach [e2] X.env)).any (·.1) = false := by rfl) (h : X.K = K := by rfl) :
    PE X (.Call (.Name "list" p) [.Call (.Name "zip" p2) [e, e2] [] pos2] [] pos) (tListZip K ta) := h ▸ pe_listZip hc hg hm hg2 hm2 ha hs hs2 hpl
theorem dictZipK (hc : X.calm = true) (hg : Gl X "dict") (hm : X.mg "dict" = none) (hg2 : Gl X "zip") (hm2 : X.mg "zip" = none) (ha : PA X [e, e2] ta)
    (hs : starEach [.Call (.Name "zip" p2) [e, e2] [] pos2] X.env = (false, eval (.Call (.Name "zip" p2) [e, e2] [] pos2) X.env) :: starEach [] X.env := by rfl)
    (hs2 : starEach [e, e2] X.env = (false, eval e X.env) :: starEach [e2] X.env := by rfl) (hpl : (backTo pos2 (starEach [e2] X.env)).any (·.1) = false := by rfl) (h : X.K = K := by rfl) :
    PE X (.Call (.Name "dict" p) [.Call (.Name "zip" p2) [e, e2] [] pos2] [] pos) (tDictZip K ta) := h ▸ pe_dictZip hc hg hm hg2 hm2 ha hs hs2 hpl
/-- a built-in class as a value -/
theorem bty (n : String) {x : Str} {pos : Pos} (hg : Gl X x) (hm : X.mg x = none) (hv : bootBuiltins x = some (.type n)) (hn : x ≠ "__name__" := by decide) (hd : (x == ("__debug__" : Str)) = false := by decide) : PE X (.Name x pos) (tC (.ty n)) := pe_bltn hg hm hv rfl hn hd
theorem gref (a : Addr) {x : Str} {pos : Pos} (hg : Gl X x) (hm : X.mg x = some (.ref a)) (hd : (x == ("__debug__" : Str)) = false := by decide) : PE X (.Name x pos) (tC (.ref a)) := pe_glob hg hm rfl hd
theorem gstr (z : Str) {tk : Tok} {x : Str} {pos : Pos} (hg : Gl X x) (hm : X.mg x = some (.str z tk)) (hd : (x == ("__debug__" : Str)) = false := by decide) : PE X (.Name x pos) (tC (.str z)) := pe_glob hg hm ⟨tk, rfl⟩ hd
end
end Y

/-! Y: steps of a reading that need no thought. -/
namespace Y
open PySem PySem.Spec PyProof.Rows L2
variable {K : PySem.W.Frag}
section
variable {Γ : GG} {O : OO} {te ta tb tc : TE} {tt tu : TT} {P : Sl → OO → Prop} {PB : Bool → OO → Prop} {A : AE} {ts tw : TS}
/-- a test that is known to be a truth value -/
theorem wT_B' (h : wE K te Γ O fun x O1 => ∃ b, x = .d (.bl b) ∧ PB b O1) : wT K (tB te) Γ O PB := wT_B h
theorem wE_var' {i : Nat} (h : ∃ s, Γ[i]? = some (some s) ∧ P s O) : wE K (tVar i) Γ O P := h.elim fun _ h => wE_var h.1 h.2
theorem a_lenSeq {s : Sl} {ds : List D} (q : Seq O s ds) (p : P (.d (.int ds.length)) O) : aRC K (rLenSeq K) [s] O P := a_len q p
theorem a_listOf {s : Sl} {ds : List D} (q : Seq O s ds) (p : P (.d (.lst ds)) O) : aRC K (rListOf K) [s] O P := a_list q p
theorem a_listOfOwn (m : Nat) {s : Sl} {ds : List D} (q : Seq O s ds) (p : ∀ a, P (.p m a) ((m, a, .ol ds) :: O)) : aRC K (rListOf K) [s] O P := a_listOwn m q p
theorem wS_ifT (h : wT K tt Γ O fun b O1 => b = true ∧ wS K ts Γ O1 A) : wS K (tIfS tt ts tw) Γ O A := wS_if (h.imp fun b O1 ⟨e, p⟩ => ⟨fun _ => p, fun q => (by subst e; cases q)⟩)
theorem wS_ifF (h : wT K tt Γ O fun b O1 => b = false ∧ wS K tw Γ O1 A) : wS K (tIfS tt ts tw) Γ O A := wS_if (h.imp fun b O1 ⟨e, p⟩ => ⟨fun q => (by subst e; cases q), fun _ => p⟩)
theorem wT_orF (h : wT K tt Γ O fun b O1 => b = false ∧ wT K tu Γ O1 PB) : wT K (tOr tt tu) Γ O PB := wT_or (h.imp fun b O1 ⟨e, p⟩ => ⟨fun _ => p, fun q => (by subst e; cases q)⟩)
theorem wT_orT (h : wT K tt Γ O fun b O1 => b = true ∧ PB true O1) : wT K (tOr tt tu) Γ O PB := wT_or (h.imp fun b O1 ⟨e, p⟩ => ⟨fun q => (by subst e; cases q), fun _ => p⟩)
theorem wT_andT (h : wT K tt Γ O fun b O1 => b = true ∧ wT K tu Γ O1 PB) : wT K (tAnd tt tu) Γ O PB := wT_and (h.imp fun b O1 ⟨e, p⟩ => ⟨fun _ => p, fun q => (by subst e; cases q)⟩)
theorem wT_andF (h : wT K tt Γ O fun b O1 => b = false ∧ PB false O1) : wT K (tAnd tt tu) Γ O PB := wT_and (h.imp fun b O1 ⟨e, p⟩ => ⟨fun q => (by subst e; cases q), fun _ => p⟩)
theorem wE_andT (h : wE K ta Γ O fun x O1 => x = .d (.bl true) ∧ wE K tb Γ O1 P) : wE K (tAndV ta tb) Γ O P := wE_andV (h.imp fun x O1 ⟨e, p⟩ => ⟨true, e, fun _ => p, fun q => by cases q⟩)
theorem wE_andF (h : wE K ta Γ O fun x O1 => x = .d (.bl false) ∧ P (.d (.bl false)) O1) : wE K (tAndV ta tb) Γ O P := wE_andV (h.imp fun x O1 ⟨e, p⟩ => ⟨false, e, fun q => (by cases q), fun _ => p⟩)
theorem wE_cbLen {t : TA} (h : wA K t Γ O fun ss O1 => aRC K (rLenSeq K) ss O1 P) : wE K (tCB (rLenSeq K) t) Γ O P := wE_cb h
theorem wE_cbLenS {t : TA} (h : wA K t Γ O fun ss O1 => aRC K (fun xs H Q => ∃ x, xs = [.str x] ∧ x.length ≤ sizeLine ∧ Q (.int x.length) H) ss O1 P) : wE K (tCB (fun xs H Q => ∃ x, xs = [.str x] ∧ x.length ≤ sizeLine ∧ Q (.int x.length) H) t) Γ O P := wE_cb h
theorem wE_cbLenD {t : TA} (h : wA K t Γ O fun ss O1 => aRC K (fun xs H Q => ∃ a kvs, xs = [V.ref a] ∧ Rd H a (.dK kvs) ∧ Q (.int kvs.length) H) ss O1 P) : wE K (tCB (fun xs H Q => ∃ a kvs, xs = [V.ref a] ∧ Rd H a (.dK kvs) ∧ Q (.int kvs.length) H) t) Γ O P := wE_cb h
theorem wE_cbListOf {t : TA} (h : wA K t Γ O fun ss O1 => aRC K (rListOf K) ss O1 P) : wE K (tCB (rListOf K) t) Γ O P := wE_cb h
theorem wE_cbTup {t : TA} (h : wA K t Γ O fun ss O1 => aRC K (rTupR K) ss O1 P) : wE K (tCB (rTupR K) t) Γ O P := wE_cb h
theorem wGs_consM {t : TG} {u : TGs} {d : D} {ds : List D} {PG : GG → OO → Prop} (h : wG K t (.d d) Γ O fun Γ1 O1 => wGs K u (ds.map Sl.d) Γ1 O1 PG) : wGs K (gCons t u) ((d :: ds).map Sl.d) Γ O PG := wGs_cons h
theorem wGs_nilM {PG : GG → OO → Prop} (p : PG Γ O) : wGs K gNil (([] : List D).map Sl.d) Γ O PG := wGs_nil p
theorem wS_nextE (h : A.nx Γ O) : wS K Ends.nx Γ O A := wS_next h
theorem wS_brkE (h : A.bk Γ O) : wS K Ends.bk Γ O A := wS_brk h
theorem a_neg {i : Int} (p : P (.d (.int (-i))) O) : aR1 K (rU fun i => V.int (-i)) (.d (.int i)) O P := fun H v w hv Q q => by
  cases hv
  exact ⟨i, rfl, q _ H _ O p (Same.refl _) w (.int _)⟩
/-- rows that are data -/
def SeqD (x : D) (ds : List D) : Prop := ∀ O : OO, Seq O (.d x) ds
theorem SeqD.lst (ds : List D) : SeqD (.lst ds) ds := fun _ => .lst ds
theorem SeqD.rt (ds : List D) : SeqD (.rt ds) ds := fun _ => .rt ds
theorem SeqD.tup (ds : List D) : SeqD (.tup ds) ds := fun _ => .tup ds
theorem seq_d {x : D} {ds : List D} (h : Seq O (.d x) ds) : SeqD x ds := by
  cases h with
  | lst => exact .lst _
  | tup => exact .tup _
  | rt => exact .rt _
theorem SeqD.isList {x : D} {ds : List D} (h : SeqD x ds) : ∃ t, x.ty = some t ∧ kitBs t ["list", "tuple"] = some true := by
  cases h [] with
  | lst => exact ⟨_, rfl, by decide⟩
  | tup => exact ⟨_, rfl, by decide⟩
  | rt => exact ⟨_, rfl, by decide⟩
end
end Y

/-! Y: plain lists, dicts as lists of pairs; comprehensions over texts. -/
namespace Y
open PySem PySem.Spec PyProof.Rows L2
section
variable {α β : Type}
def lk : List (Str × α) → Str → Option α
  | [], _ => none
  | (k, d) :: r, x => if k = x then some d else lk r x
def mapD (f : α → D) (l : List (Str × α)) : List (Str × D) := l.map fun p => (p.1, f p.2)
theorem mapD_len (f : α → D) (l : List (Str × α)) : (mapD f l).length = l.length := by simp [mapD]
theorem lookD_mapD (f : α → D) (l : List (Str × α)) (k : Str) : lookD (mapD f l) k = (lk l k).map f := by
  induction l with
  | nil => rfl
  | cons p r ih =>
    obtain ⟨a, b⟩ := p
    show (if a = k then some (f b) else lookD (mapD f r) k) = (if a = k then some b else lk r k).map f
    by_cases h : a = k
    · simp [h]
    · simp [h, ih]
theorem keysD_mapD (f : α → D) (l : List (Str × α)) : keysD (mapD f l) = (l.map (·.1)).map D.str := by simp [keysD, mapD]
theorem lk_mem {l : List (Str × α)} {k : Str} {v : α} (h : lk l k = some v) : (k, v) ∈ l := by
  induction l with
  | nil => simp [lk] at h
  | cons p r ih =>
    obtain ⟨a, b⟩ := p
    unfold lk at h
    by_cases e : a = k
    · rw [if_pos e] at h; cases h; subst e; exact List.mem_cons_self
    · rw [if_neg e] at h; exact List.mem_cons_of_mem _ (ih h)
theorem lk_of_mem {l : List (Str × α)} (nd : (l.map (·.1)).Nodup) {k : Str} {v : α} (h : (k, v) ∈ l) : lk l k = some v := by
  induction l with
  | nil => simp at h
  | cons p r ih =>
    obtain ⟨a, b⟩ := p
    rw [List.map_cons, List.nodup_cons] at nd
    unfold lk
    rcases List.mem_cons.mp h with e | h
    · cases e; simp
    · rw [if_neg (fun e => nd.1 (by rw [e]; exact List.mem_map.mpr ⟨_, h, rfl⟩))]
      exact ih nd.2 h
theorem lk_isSome {l : List (Str × α)} {k : Str} : (lk l k).isSome = decide (k ∈ l.map (·.1)) := by
  induction l with
  | nil => rfl
  | cons p r ih =>
    obtain ⟨a, b⟩ := p
    unfold lk
    by_cases e : a = k
    · simp [e]
    · rw [if_neg e, ih]
      have e' : ¬ k = a := fun z => e z.symm
      simp [e']
theorem lk_some {l : List (Str × α)} {k : Str} (h : k ∈ l.map (·.1)) : ∃ v, lk l k = some v := by
  have := lk_isSome (l := l) (k := k)
  rw [decide_eq_true h] at this
  exact Option.isSome_iff_exists.mp this
theorem lk_none {l : List (Str × α)} {k : Str} (h : k ∉ l.map (·.1)) : lk l k = none := by
  have := lk_isSome (l := l) (k := k)
  rw [decide_eq_false h] at this
  exact Option.not_isSome_iff_eq_none.mp (by simp [this])
theorem lookD_isSome {l : List (Str × D)} {k : Str} : (lookD l k).isSome = decide (k ∈ l.map (·.1)) := by
  have e : lookD l k = lk l k := by
    induction l with
    | nil => rfl
    | cons p r ih => obtain ⟨a, b⟩ := p; simp [lookD, lk, ih]
  rw [e, lk_isSome]
theorem putD_new {l : List (Str × D)} {k : Str} {d : D} (h : k ∉ l.map (·.1)) : putD l k d = l ++ [(k, d)] := by
  unfold putD
  rw [if_neg]
  intro z
  rw [List.any_eq_true] at z
  obtain ⟨p, hp, e⟩ := z
  exact h (List.mem_map.mpr ⟨p, hp, by simpa using e⟩)
theorem putD_old {l : List (Str × D)} {k : Str} {d : D} (h : k ∈ l.map (·.1)) : (putD l k d).length = l.length := by
  unfold putD
  rw [if_pos, List.length_map]
  rw [List.any_eq_true]
  obtain ⟨p, hp, e⟩ := List.mem_map.mp h
  exact ⟨p, hp, by simp [e]⟩
theorem putD_keys {l : List (Str × D)} {k : Str} {d : D} : ∀ x, x ∈ (putD l k d).map (·.1) ↔ x ∈ l.map (·.1) ∨ x = k := by
  intro x
  unfold putD
  split
  · rename_i h
    have e : (l.map fun p => if p.1 = k then (p.1, d) else p).map (·.1) = l.map (·.1) := by
      rw [List.map_map]
      apply List.map_congr_left
      intro p _
      by_cases z : p.1 = k <;> simp [z]
    rw [e]
    rw [List.any_eq_true] at h
    obtain ⟨p, hp, z⟩ := h
    constructor
    · exact .inl
    · rintro (y | rfl)
      · exact y
      · exact List.mem_map.mpr ⟨p, hp, by simpa using z⟩
  · simp
theorem putAll_nd : ∀ (l acc : List (Str × D)), ((acc ++ l).map (·.1)).Nodup → putAll acc l = acc ++ l
  | [], acc, _ => by simp [putAll]
  | (k, d) :: r, acc, h => by
    have h1 : k ∉ acc.map (·.1) := by
      rw [List.map_append, List.nodup_append] at h
      intro z
      exact h.2.2 k z k (by simp) rfl
    show putAll (putD acc k d) r = _
    rw [putD_new h1, putAll_nd r (acc ++ [(k, d)]) (by simpa using h)]
    simp
theorem putAll_nodup {l : List (Str × D)} (h : (l.map (·.1)).Nodup) : putAll [] l = l := by
  have := putAll_nd l [] (by simpa using h)
  simpa using this
theorem putAll_lt : ∀ (l acc : List (Str × D)), (acc.map (·.1)).Nodup → ¬ ((acc ++ l).map (·.1)).Nodup → (putAll acc l).length < acc.length + l.length
  | [], acc, h, n => by simp at n; exact absurd h n
  | (k, d) :: r, acc, h, n => by
    show (putAll (putD acc k d) r).length < _
    by_cases hk : k ∈ acc.map (·.1)
    · have h1 := putAll_len r (putD acc k d)
      rw [putD_old hk] at h1
      simp; omega
    · rw [putD_new hk]
      have nd : ((acc ++ [(k, d)]).map (·.1)).Nodup := by
        rw [List.map_append, List.nodup_append]
        exact ⟨h, by simp, fun a ha b hb e => hk (by simp at hb; rw [← hb, ← e]; exact ha)⟩
      have := putAll_lt r (acc ++ [(k, d)]) nd (by simpa using n)
      simp at this ⊢
      omega
theorem putAll_len_eq {l : List (Str × D)} : decide (((putAll [] l).length : Int) = (l.length : Int)) = decide ((l.map (·.1)).Nodup) := by
  by_cases h : (l.map (·.1)).Nodup
  · rw [putAll_nodup h, decide_eq_true h]; simp
  · have := putAll_lt l [] (by simp) (by simpa using h)
    rw [decide_eq_false h]
    simp at this
    exact decide_eq_false (by omega)
/-- what comes of a text, of a pair -/
def onS (g : Str → Option α) : D → Option α
  | .str z => g z
  | _ => none
theorem filterMap_onS (g : Str → Option α) (xs : List Str) : (xs.map D.str).filterMap (onS g) = xs.filterMap g := by
  induction xs with
  | nil => rfl
  | cons x xs ih =>
    rw [List.map_cons, List.filterMap_cons, List.filterMap_cons, ih]
    rfl
theorem filterMap_some (g : β → α) (xs : List β) : (xs.filterMap fun x => some (g x)) = xs.map g := by
  induction xs with
  | nil => rfl
  | cons x xs ih => simp
theorem mem_of_strs {xs : List Str} {i : Nat} {d : D} (h : (xs.map D.str)[i]? = some d) : ∃ z, z ∈ xs ∧ xs[i]? = some z ∧ d = .str z := by
  rw [List.getElem?_map] at h
  cases e : xs[i]? with
  | none => rw [e] at h; cases h
  | some z => rw [e] at h; cases h; exact ⟨z, List.mem_of_getElem? e, rfl, rfl⟩
end
variable {K : PySem.W.Frag}
section
variable {Γ : GG} {O : OO} {te ta tk tv : TE} {tt : TT} {P : Sl → OO → Prop} {wi : TI} {g : TG} {vs : List Nat}
/-- [e for x in texts if test]: h tells what comes of each -/
theorem wE_lcS (tg : TgK g vs) (h : wI K wi Γ O fun ds C O1 => ∃ (xs : List Str) (r : Str → Option D), ds = xs.map D.str ∧ xs.length < 100000 ∧ (∀ acc a, C ((99, a, .ol acc) :: O1)) ∧
    (∀ x, x ∈ xs → ∀ (acc : List D) (a : Addr), wG K g (.d (.str x)) (wipeG Γ vs) ((99, a, .ol acc) :: O1) fun Γ2 O2 => wT K tt Γ2 O2 fun b O3 =>
      (b = true → wE K te Γ2 O3 fun y O4 => O4 = (99, a, .ol acc) :: O1 ∧ ∃ e, y = .d e ∧ r x = some e) ∧ (b = false → O3 = (99, a, .ol acc) :: O1 ∧ r x = none)) ∧ P (.d (.lst (xs.filterMap r))) O1) : wE K (tLc wi g tt te vs) Γ O P :=
  wE_lcP tg (h.imp fun ds C O1 ⟨xs, r, e, hz, hC, hs, p⟩ => by
    subst e
    refine ⟨onS r, hC, by simpa using hz, fun i d acc a hd => ?_, by rw [filterMap_onS]; exact p⟩
    obtain ⟨z, hz, _, rfl⟩ := mem_of_strs hd
    exact hs z hz acc a)
/-- {k: v for x in texts if test}, of one's own -/
theorem wE_dcS (tg : TgK g vs) (h : wI K wi Γ O fun ds C O1 => ∃ (xs : List Str) (r : Str → Option (Str × D)), ds = xs.map D.str ∧ xs.length < 100000 ∧ (∀ acc a, C ((99, a, .ok acc) :: O1)) ∧
    (∀ x, x ∈ xs → ∀ (acc : List (Str × D)) (a : Addr), wG K g (.d (.str x)) (wipeG Γ vs) ((99, a, .ok acc) :: O1) fun Γ2 O2 => wT K tt Γ2 O2 fun b O3 =>
      (b = true → wE K tk Γ2 O3 fun y O4 => wE K tv Γ2 O4 fun z O5 => O5 = (99, a, .ok acc) :: O1 ∧ ∃ k e, y = .d (.str k) ∧ z = .d e ∧ r x = some (k, e)) ∧ (b = false → O3 = (99, a, .ok acc) :: O1 ∧ r x = none)) ∧ ∀ a, P (.p 99 a) ((99, a, .ok (putAll [] (xs.filterMap r))) :: O1)) : wE K (tDc wi g tt tk tv vs) Γ O P :=
  wE_dcP tg (h.imp fun ds C O1 ⟨xs, r, e, hz, hC, hs, p⟩ => by
    subst e
    refine ⟨onS r, hC, by simpa using hz, fun i d acc a hd => ?_, fun a => by rw [filterMap_onS]; exact p a⟩
    obtain ⟨z, hz, _, rfl⟩ := mem_of_strs hd
    exact hs z hz acc a)
/-- all([test of x for x in texts]) -/
theorem wE_allS (tg : TgK g vs) (h : wI K wi Γ O fun ds C O1 => ∃ (xs : List Str) (b : Str → Bool), ds = xs.map D.str ∧ xs.length < 100000 ∧ (∀ acc a, C ((99, a, .ol acc) :: O1)) ∧
    (∀ x, x ∈ xs → ∀ (acc : List D) (a : Addr), wG K g (.d (.str x)) (wipeG Γ vs) ((99, a, .ol acc) :: O1) fun Γ2 O2 => wE K te Γ2 O2 fun y O4 => O4 = (99, a, .ol acc) :: O1 ∧ y = .d (.bl (b x))) ∧ P (.d (.bl (xs.all b))) O1) :
    wE K (tCB (rAll K) (tCons (tLc wi g tYes te vs) tNil)) Γ O P := by
  refine wE_cb (wA_cons (wE_lcS tg (h.imp fun ds C O1 ⟨xs, b, e, hz, hC, hs, p⟩ => ⟨xs, fun x => some (.bl (b x)), e, hz, hC, fun x hx acc a => ?_, ?_⟩)))
  · refine fun v σ H w sl hv Q q => hs x hx acc a v σ H w sl hv Q fun σ' H' Γ' O'' p => q σ' H' Γ' O'' (wT_yes ⟨fun _ => p.imp fun y O4 ⟨e1, e2⟩ => ⟨e1, _, e2, rfl⟩, fun z => by cases z⟩)
  · rw [filterMap_some]
    refine wA_nil ?_
    have e : xs.map (fun x => D.bl (b x)) = (xs.map b).map D.bl := by simp
    rw [e]
    refine a_all (bs := xs.map b) (.lst _) ?_
    have e2 : (xs.map b).all id = xs.all b := by simp
    rw [e2]
    exact p
/-- what comes of a pair (key, value) -/
def onP {α : Type} (r : Str → D → Option α) : D → Option α
  | .tup [.str k, d] => r k d
  | _ => none
theorem filterMap_onP {α : Type} (r : Str → D → Option α) (kvs : List (Str × D)) : (itemsD kvs).filterMap (onP r) = kvs.filterMap fun p => r p.1 p.2 := by
  induction kvs with
  | nil => rfl
  | cons x xs ih =>
    have e : itemsD (x :: xs) = D.tup [.str x.1, x.2] :: itemsD xs := rfl
    rw [e, List.filterMap_cons, List.filterMap_cons, ih]
    rfl
/-- {k: v for a, b in d.items() if test} -/
theorem wE_dcI (tg : TgK g vs) (h : wI K wi Γ O fun ds C O1 => ∃ (kvs : List (Str × D)) (r : Str → D → Option (Str × D)), ds = itemsD kvs ∧ kvs.length < 100000 ∧ (∀ acc a, C ((99, a, .ok acc) :: O1)) ∧
    (∀ x d, (x, d) ∈ kvs → ∀ (acc : List (Str × D)) (a : Addr), wG K g (.d (.tup [.str x, d])) (wipeG Γ vs) ((99, a, .ok acc) :: O1) fun Γ2 O2 => wT K tt Γ2 O2 fun b O3 =>
      (b = true → wE K tk Γ2 O3 fun y O4 => wE K tv Γ2 O4 fun z O5 => O5 = (99, a, .ok acc) :: O1 ∧ ∃ k e, y = .d (.str k) ∧ z = .d e ∧ r x d = some (k, e)) ∧ (b = false → O3 = (99, a, .ok acc) :: O1 ∧ r x d = none)) ∧ ∀ a, P (.p 99 a) ((99, a, .ok (putAll [] (kvs.filterMap fun p => r p.1 p.2))) :: O1)) : wE K (tDc wi g tt tk tv vs) Γ O P :=
  wE_dcP tg (h.imp fun ds C O1 ⟨kvs, r, e, hz, hC, hs, p⟩ => by
    subst e
    refine ⟨onP r, hC, by simpa [itemsD] using hz, fun i d acc a hd => ?_, fun a => by rw [filterMap_onP]; exact p a⟩
    unfold itemsD at hd
    rw [List.getElem?_map] at hd
    cases e : kvs[i]? with
    | none => rw [e] at hd; cases hd
    | some q => rw [e] at hd; cases hd; exact hs q.1 q.2 (List.mem_of_getElem? e) acc a)
/-- [e for a, b in pairs if test] -/
theorem wE_lcI (tg : TgK g vs) (h : wI K wi Γ O fun ds C O1 => ∃ (kvs : List (Str × D)) (r : Str → D → Option D), ds = itemsD kvs ∧ kvs.length < 100000 ∧ (∀ acc a, C ((99, a, .ol acc) :: O1)) ∧
    (∀ x d, (x, d) ∈ kvs → ∀ (acc : List D) (a : Addr), wG K g (.d (.tup [.str x, d])) (wipeG Γ vs) ((99, a, .ol acc) :: O1) fun Γ2 O2 => wT K tt Γ2 O2 fun b O3 =>
      (b = true → wE K te Γ2 O3 fun y O4 => O4 = (99, a, .ol acc) :: O1 ∧ ∃ e, y = .d e ∧ r x d = some e) ∧ (b = false → O3 = (99, a, .ol acc) :: O1 ∧ r x d = none)) ∧ P (.d (.lst (kvs.filterMap fun p => r p.1 p.2))) O1) : wE K (tLc wi g tt te vs) Γ O P :=
  wE_lcP tg (h.imp fun ds C O1 ⟨kvs, r, e, hz, hC, hs, p⟩ => by
    subst e
    refine ⟨onP r, hC, by simpa [itemsD] using hz, fun i d acc a hd => ?_, by rw [filterMap_onP]; exact p⟩
    unfold itemsD at hd
    rw [List.getElem?_map] at hd
    cases e : kvs[i]? with
    | none => rw [e] at hd; cases hd
    | some q => rw [e] at hd; cases hd; exact hs q.1 q.2 (List.mem_of_getElem? e) acc a)
/-- all([test of a, b for a, b in pairs]) -/
theorem wE_allI (tg : TgK g vs) (h : wI K wi Γ O fun ds C O1 => ∃ (kvs : List (Str × D)) (b : Str → D → Bool), ds = itemsD kvs ∧ kvs.length < 100000 ∧ (∀ acc a, C ((99, a, .ol acc) :: O1)) ∧
    (∀ x d, (x, d) ∈ kvs → ∀ (acc : List D) (a : Addr), wG K g (.d (.tup [.str x, d])) (wipeG Γ vs) ((99, a, .ol acc) :: O1) fun Γ2 O2 => wE K te Γ2 O2 fun y O4 => O4 = (99, a, .ol acc) :: O1 ∧ y = .d (.bl (b x d))) ∧ P (.d (.bl (kvs.all fun p => b p.1 p.2))) O1) :
    wE K (tCB (rAll K) (tCons (tLc wi g tYes te vs) tNil)) Γ O P := by
  refine wE_cb (wA_cons (wE_lcI tg (h.imp fun ds C O1 ⟨kvs, b, e, hz, hC, hs, p⟩ => ⟨kvs, fun x d => some (.bl (b x d)), e, hz, hC, fun x d hx acc a => ?_, ?_⟩)))
  · refine fun v σ H w sl hv Q q => hs x d hx acc a v σ H w sl hv Q fun σ' H' Γ' O'' p => q σ' H' Γ' O'' (wT_yes ⟨fun _ => p.imp fun y O4 ⟨e1, e2⟩ => ⟨e1, _, e2, rfl⟩, fun z => by cases z⟩)
  · rw [filterMap_some]
    refine wA_nil ?_
    have e : kvs.map (fun p => D.bl (b p.1 p.2)) = (kvs.map fun p => b p.1 p.2).map D.bl := by simp
    rw [e]
    refine a_all (bs := kvs.map fun p => b p.1 p.2) (.lst _) ?_
    have e2 : (kvs.map fun p => b p.1 p.2).all id = kvs.all fun p => b p.1 p.2 := by simp
    rw [e2]
    exact p
end
end Y

/-! Y: dicts as functions over a row of keys; parts of rows. -/
namespace Y
open PySem PySem.Spec PyProof.Rows L2
section
variable {α β : Type}
def funD (f : Str → D) (ys : List Str) : List (Str × D) := ys.map fun p => (p, f p)
theorem funD_len (f : Str → D) (ys : List Str) : (funD f ys).length = ys.length := by simp [funD]
theorem funD_keys (f : Str → D) (ys : List Str) : (funD f ys).map (·.1) = ys := by
  simp [funD, Function.comp_def]
theorem keysD_funD (f : Str → D) (ys : List Str) : keysD (funD f ys) = ys.map D.str := by simp [keysD, funD]
theorem lookD_funD (f : Str → D) (ys : List Str) (k : Str) : lookD (funD f ys) k = if k ∈ ys then some (f k) else none := by
  induction ys with
  | nil => rfl
  | cons y r ih =>
    show (if y = k then some (f y) else lookD (funD f r) k) = _
    by_cases h : y = k
    · subst h; simp
    · have h' : ¬ k = y := fun e => h e.symm
      rw [if_neg h, ih]; simp [h']
theorem lookD_in {f : Str → D} {ys : List Str} {k : Str} (h : k ∈ ys) : lookD (funD f ys) k = some (f k) := by rw [lookD_funD, if_pos h]
theorem lookD_some (f : Str → D) (ys : List Str) (k : Str) : (lookD (funD f ys) k).isSome = decide (k ∈ ys) := by
  rw [lookD_funD]
  by_cases h : k ∈ ys <;> simp [h]
theorem funD_congr {f g : Str → D} {ys : List Str} (h : ∀ p ∈ ys, f p = g p) : funD f ys = funD g ys := by
  unfold funD
  exact List.map_congr_left fun p hp => by rw [h p hp]
theorem funD_app (f : Str → D) (ys zs : List Str) : funD f (ys ++ zs) = funD f ys ++ funD f zs := by simp [funD]
theorem putD_funD {f : Str → D} {ys : List Str} {k : Str} (h : k ∉ ys) : putD (funD f ys) k (f k) = funD f (ys ++ [k]) := by
  rw [putD_new (by rw [funD_keys]; exact h), funD_app]; rfl
theorem putAll_funD {f : Str → D} {ys : List Str} (h : ys.Nodup) : putAll [] (funD f ys) = funD f ys := putAll_nodup (by rw [funD_keys]; exact h)
theorem filterMap_funD (f : Str → D) (ys : List Str) : (ys.filterMap fun p => some (p, f p)) = funD f ys := filterMap_some _ _
/-- changing one key's value -/
theorem putD_upd {f : Str → D} {ys : List Str} {k : Str} {d : D} (h : k ∈ ys) : putD (funD f ys) k d = funD (fun p => if p = k then d else f p) ys := by
  unfold putD
  rw [if_pos]
  · unfold funD
    rw [List.map_map]
    apply List.map_congr_left
    intro p _
    show (if p = k then (p, d) else (p, f p)) = (p, if p = k then d else f p)
    by_cases e : p = k <;> simp [e]
  · rw [List.any_eq_true]
    exact ⟨(k, f k), List.mem_map.mpr ⟨k, h, rfl⟩, by simp⟩
/-- a set of texts: a dict with True at each -/
def setD (l : List Str) : D := .dct (funD (fun _ => .bl true) l)
theorem cutD_to {ds : List α} {k : Nat} : cutD ds none (some (k : Int)) = ds.take k := by
  unfold cutD
  rw [HT.sIx_nat, HT.sIx_none]
  apply List.ext_getElem?
  intro i
  rw [List.getElem?_take, List.getElem?_drop, List.getElem?_take, Nat.zero_add, Nat.sub_zero]
  by_cases h : i < k <;> by_cases h2 : i < ds.length
  · rw [if_pos h, if_pos (Nat.lt_min.mpr ⟨h, h2⟩)]
  · rw [List.getElem?_eq_none (by omega)]; simp
  · rw [if_neg h, if_neg (fun z => h (Nat.lt_min.mp z).1)]
  · rw [if_neg h, if_neg (fun z => h (Nat.lt_min.mp z).1)]
theorem cutD_from {ds : List α} {k : Nat} : cutD ds (some (k : Int)) none = ds.drop k := by
  unfold cutD
  rw [HT.sIx_nat, HT.sIx_none]
  apply List.ext_getElem?
  intro i
  rw [List.getElem?_take, List.getElem?_drop, List.getElem?_drop]
  by_cases h : k ≤ ds.length
  · rw [Nat.min_eq_left h]
    by_cases h3 : i < ds.length - k
    · rw [if_pos h3]
    · rw [if_neg h3, List.getElem?_eq_none (by omega)]
  · have h' : ds.length ≤ k := by omega
    rw [Nat.min_eq_right h', if_neg (by omega), List.getElem?_eq_none (by omega)]
theorem cutD_mid {ds : List α} {j k : Nat} : cutD ds (some (j : Int)) (some (k : Int)) = (ds.take k).drop j := by
  unfold cutD
  rw [HT.sIx_nat, HT.sIx_nat]
  apply List.ext_getElem?
  intro i
  rw [List.getElem?_take, List.getElem?_drop, List.getElem?_drop, List.getElem?_take]
  generalize hn : ds.length = n
  have none' : ∀ m, n ≤ m → ds[m]? = none := fun m hm => List.getElem?_eq_none (by omega)
  by_cases h1 : j ≤ n <;> by_cases h2 : k ≤ n
  · rw [Nat.min_eq_left h1, Nat.min_eq_left h2]
    by_cases h3 : i < k - j
    · rw [if_pos h3, if_pos (by omega)]
    · rw [if_neg h3, if_neg (by omega)]
  · have h2' : n ≤ k := by omega
    rw [Nat.min_eq_left h1, Nat.min_eq_right h2']
    by_cases h3 : i < n - j
    · rw [if_pos h3, if_pos (by omega)]
    · rw [if_neg h3, none' _ (by omega)]
      simp
  · have h1' : n ≤ j := by omega
    rw [Nat.min_eq_right h1', Nat.min_eq_left h2, if_neg (by omega), if_neg (by omega)]
  · have h1' : n ≤ j := by omega
    have h2' : n ≤ k := by omega
    rw [Nat.min_eq_right h1', Nat.min_eq_right h2', if_neg (by omega), none' _ (by omega)]
    simp
/-- all but the last -/
theorem cutD_init {ds : List α} : cutD ds none (some (-1)) = ds.dropLast := by
  unfold cutD
  show (ds.drop 0).take (HT.sIx ds.length ds.length (some (-1)) - 0) = _
  have e : HT.sIx ds.length ds.length (some (-1)) = ds.length - 1 := by
    show (if (-1 : Int) < 0 then (-1 + (ds.length : Int)).toNat else min (-1 : Int).toNat ds.length) = _
    rw [if_pos (by decide)]
    omega
  rw [e, List.dropLast_eq_take]
  simp
theorem cutD_tail_init {ds : List α} {k : Nat} (hk : k ≤ ds.length) : cutD ds (some (k : Int)) (some (-1)) = ds.dropLast.drop k := by
  unfold cutD
  rw [HT.sIx_nat, Nat.min_eq_left hk]
  have e : HT.sIx ds.length ds.length (some (-1)) = ds.length - 1 := by
    show (if (-1 : Int) < 0 then (-1 + (ds.length : Int)).toNat else min (-1 : Int).toNat ds.length) = _
    rw [if_pos (by decide)]
    omega
  rw [e, List.dropLast_eq_take]
  apply List.ext_getElem?
  intro i
  rw [List.getElem?_take, List.getElem?_drop, List.getElem?_drop, List.getElem?_take]
  by_cases h : i < ds.length - 1 - k
  · rw [if_pos h, if_pos (by omega)]
  · rw [if_neg h, if_neg (by omega)]
theorem cutD_map (f : α → β) (ds : List α) (lo hi : Option Int) : cutD (ds.map f) lo hi = (cutD ds lo hi).map f := by
  unfold cutD
  rw [List.length_map, List.map_take, List.map_drop]
theorem atI_neg1 {xs : List α} {v : α} (h : xs.getLast? = some v) : atI xs (-1) = some v := by
  have hne : xs ≠ [] := by intro z; rw [z] at h; cases h
  have hl : 0 < xs.length := List.length_pos_iff.mpr hne
  have e : ixN xs.length (-1) = some (xs.length - 1) := by
    unfold ixN
    rw [if_neg (by decide), if_pos (by omega)]
    congr 1
    omega
  unfold L2.atI
  rw [e]
  show xs[xs.length - 1]? = some v
  rw [← List.getLast?_eq_getElem?]
  exact h
theorem atI_map (f : α → β) {xs : List α} {i : Int} {v : α} (h : atI xs i = some v) : atI (xs.map f) i = some (f v) := by
  obtain ⟨j, h1, h2⟩ := atI_some h
  unfold L2.atI
  rw [List.length_map, h2]
  show (xs.map f)[j]? = _
  rw [List.getElem?_map, h1]; rfl
theorem nodup_ix : ∀ {xs : List α} {i j : Nat} {a : α}, xs.Nodup → xs[i]? = some a → xs[j]? = some a → i = j
  | [], i, j, a, nd, h1, h2 => by simp at h1
  | x :: xs, 0, 0, a, nd, h1, h2 => rfl
  | x :: xs, 0, j + 1, a, nd, h1, h2 => by
    simp at h1 h2
    subst h1
    exact absurd (List.mem_of_getElem? h2) (List.nodup_cons.mp nd).1
  | x :: xs, i + 1, 0, a, nd, h1, h2 => by
    simp at h1 h2
    subst h2
    exact absurd (List.mem_of_getElem? h1) (List.nodup_cons.mp nd).1
  | x :: xs, i + 1, j + 1, a, nd, h1, h2 => by
    simp at h1 h2
    rw [nodup_ix (List.nodup_cons.mp nd).2 h1 h2]
theorem mem_take_ix {xs : List α} {i : Nat} {a : α} (h : a ∈ xs.take i) : ∃ j, j < i ∧ xs[j]? = some a := by
  obtain ⟨j, hj, e⟩ := List.getElem_of_mem h
  have e2 : (xs.take i)[j]? = some a := by rw [← e]; exact List.getElem?_eq_getElem hj
  rw [List.getElem?_take] at e2
  by_cases hi : j < i
  · rw [if_pos hi] at e2; exact ⟨j, hi, e2⟩
  · rw [if_neg hi] at e2; cases e2
theorem not_mem_take {xs : List α} {i : Nat} {a : α} (nd : xs.Nodup) (h : xs[i]? = some a) : a ∉ xs.take i := fun hm => by
  obtain ⟨j, hj, e⟩ := mem_take_ix hm
  have := nodup_ix nd e h
  omega
theorem take_next {xs : List α} {i : Nat} {a : α} (h : xs[i]? = some a) : xs.take (i + 1) = xs.take i ++ [a] := by rw [List.take_add_one, h]; rfl
/-- texts in order -/
theorem sorted_pw : ∀ {ys : List Str}, sortedS ys = true → ys.Pairwise (fun a b => sl b a = false)
  | [], _ => List.Pairwise.nil
  | [x], _ => List.pairwise_singleton _ _
  | x :: y :: r, h => by
    have h' : (!ltCps y.cps.toList x.cps.toList && risingS y r) = true := h
    rw [Bool.and_eq_true] at h'
    have ih : (y :: r).Pairwise (fun a b => sl b a = false) := sorted_pw (ys := y :: r) h'.2
    have hxy : sl y x = false := by rw [sl_ltCps]; simpa using h'.1
    refine List.pairwise_cons.mpr ⟨fun z hz => ?_, ih⟩
    rcases List.mem_cons.mp hz with rfl | hz
    · exact hxy
    · exact sl_tr hxy ((List.pairwise_cons.mp ih).1 z hz)
theorem sorted_unique {xs ys : List Str} (h : xs.Perm ys) (hx : sortedS xs = true) (hy : sortedS ys = true) : xs = ys :=
  List.Perm.eq_of_pairwise (le := fun a b => sl b a = false) (fun a b _ _ h1 h2 => sl_tot h2 h1) (sorted_pw hx) (sorted_pw hy) h
end
end Y

/-! k61: the text by places; the helpers' terms. -/
namespace Y
open PySem PySem.Spec PyProof.Rows L2
def topS (i : Nat) : Stmt := PySem.Challenge.pw_dealhouse_k61_main_wanting_rings_passed.main.body.getD i (.Pass ⟨0, 0, 0, 0⟩)
/-- the built-in names stand for the built-in things -/
structure BT (mg : Str → Option Value) : Prop where
  len : mg "len" = none
  list : mg "list" = none
  tuple : mg "tuple" = none
  dict : mg "dict" = none
  isinstance : mg "isinstance" = none
  all : mg "all" = none
  enumerate : mg "enumerate" = none
  zip : mg "zip" = none
  sorted : mg "sorted" = none
  range : mg "range" = none
  str : mg "str" = none
  int : mg "int" = none
  max : mg "max" = none
  bool : mg "bool" = none
def zSMALL : Str := "abcdefghijklmnopqrstuvwxyz"
def zFIGURES : Str := "0123456789"
def zWORDS : List Str := ["rule", "person", "wants", "needs", "gets", "with", "ring", "out", "without", "lot", "watch", "hold"]
structure GT (K : PySem.W.Frag) (mg : Str → Option Value) (C I W : Addr) (t1 t2 : Tok) : Prop where
  SMALL : mg "SMALL" = some (.str zSMALL t1)
  FIGURES : mg "FIGURES" = some (.str zFIGURES t2)
  WORDS : mg "WORDS" = some (.ref W)
  words : ∀ G, Den K G (.ref W) (.tup (zWORDS.map D.str))
  Stock : mg "Stock" = some (.ref C)
  cS : IsC K C
  MStock : Mk K C I
  nP : NoAttr K C "own_people"
  nT : NoAttr K C "own_things"
  nR : NoAttr K C "own_rows"
/-- a def that may be called by its name -/
structure Fn (P : Program) (w : World) (K : PySem.W.Frag) (mg : Str → Option Value) (base : Heap) (k : Nat) (x : Str) (f : Addr) (fd : FuncData) (ps : List Str) (sp : Sp) : Prop where
  at' : mg x = some (.ref f)
  kp : PySem.W.keepIn K (.ref f) = true
  bd : Binds K fd ps []
  ok : FnOk P w K mg base CX0 k f fd ps sp
theorem pe_fn {X : Cx} {k : Nat} {x : Str} {f : Addr} {fd : FuncData} {ps : List Str} {sp : Sp} {p pos : Pos} {e : Expr} {es : List Expr} {t : TA} (F : Fn X.prog X.w X.K X.mg X.base k x f fd ps sp) (hr : Room k X.A) (hg : Gl X x) (ha : PA X (e :: es) t)
    (hdb : (x == ("__debug__" : Str)) = false := by decide) (he : starEach (e :: es) X.env = (false, eval e X.env) :: starEach es X.env := by rfl) (hpl : (backTo pos (starEach es X.env)).any (·.1) = false := by rfl) :
    PE X (.Call (.Name x p) (e :: es) [] pos) (tCall sp [] E0 t) := pe_call F.ok hr hg F.at' F.kp F.bd .nil pass0 ha hdb he hpl
/-- a def as the top has left it -/
structure Df (K : PySem.W.Frag) (mg : Str → Option Value) (x qual : Str) (st : Stmt) (f : Addr) (fd : FuncData) (ps : List Str) : Prop where
  at' : mg x = some (.ref f)
  fn : Fun K x qual st f fd
  bd : Binds K fd ps []
local macro_rules | `(tactic| fail) => `(tactic| ((first
  | with_reducible refine wS_seq ?_
  | with_reducible refine wS_ret ?_
  | with_reducible refine wS_set ?_
  | with_reducible refine wS_asgTup ?_
  | with_reducible refine wS_asg ?_
  | with_reducible refine wS_par ?_
  | with_reducible refine wS_drop ?_
  | with_reducible refine wS_dput ?_
  | with_reducible refine wS_fld ?_
  | with_reducible refine wS_next ?_
  | with_reducible refine wS_nextE ?_
  | with_reducible refine wS_brkE ?_
  | with_reducible refine wS_brk ?_
  | with_reducible refine wT_B ?_
  | with_reducible refine wT_Test ?_
  | with_reducible refine wT_not ?_
  | with_reducible refine wT_yes ?_
  | (with_reducible refine wE_var' ?_; refine ⟨_, rfl, ?_⟩)
  | with_reducible refine wE_int ?_
  | with_reducible refine wE_bl ?_
  | with_reducible refine wE_str ?_
  | with_reducible refine wE_non ?_
  | with_reducible refine wE_op ?_
  | with_reducible refine wE_un ?_
  | with_reducible refine wE_isi ?_
  | with_reducible refine wE_cbLen ?_
  | with_reducible refine wE_cbLenS ?_
  | with_reducible refine wE_cbLenD ?_
  | with_reducible refine wE_cbListOf ?_
  | with_reducible refine wE_cbTup ?_
  | with_reducible refine wE_isN ?_
  | with_reducible refine wE_notN ?_
  | with_reducible refine a_neg ?_
  | with_reducible refine wA_nil ?_
  | with_reducible refine wA_cons ?_
  | with_reducible refine wA_star ?_
  | with_reducible refine wE_sl ?_
  | with_reducible refine wO_none ?_
  | with_reducible refine wO_some ?_
  | with_reducible refine wE_notV ?_
  | with_reducible refine wE_dget ?_
  | with_reducible refine wE_din ?_
  | with_reducible refine wE_dnotin ?_
  | with_reducible refine wE_fld ?_
  | with_reducible refine wE_frz ?_
  | with_reducible refine wE_bmL ?_
  | with_reducible refine wE_call ?_
  | with_reducible refine wG_name ?_
  | with_reducible refine wG_tup rfl ?_
  | with_reducible refine wGs_consM ?_
  | with_reducible refine wGs_nilM ?_
  | with_reducible refine wGs_nil ?_
  | with_reducible refine wGs_cons ?_) <;> (try dsimp only)))

section
variable {P : Program} {w : World} {K : PySem.W.Frag} {mg : Str → Option Value} {base : Heap} {C I W : Addr} {t1 t2 : Tok}
theorem Df.mk' {x qual : Str} {st : Stmt} {f : Addr} {fd : FuncData} {ps : List Str} {k n : Nat} {F : FF} (D : Df K mg x qual st f fd ps) (h : FnOk P w K mg base CX0 k f fd ps (spA K n F)) : Fn P w K mg base k x f fd ps (spA K n F) := ⟨D.at', D.fn.kp, D.bd, h⟩
/-! ### is_list, is_name, is_one_of, are_unlike -/
def Fis_list : FF := fun ss O P => ∃ d t b, ss = [.d d] ∧ d.ty = some t ∧ kitBs t ["list", "tuple"] = some b ∧ P (.d (.bl b)) O
abbrev s_is_list : Stmt := topS 12
theorem sc_is_list : FnScope ["thing"] ["thing"] (defScope s_is_list) := ⟨rfl, rfl, rfl, by decide +kernel, rfl, by decide +kernel, by decide +kernel⟩
theorem ok_is_list {f : Addr} {fd : FuncData} (Dd : Df K mg "is_list" "is_list" s_is_list f fd ["thing"]) (B : BT mg) : Fn P w K mg base 1 "is_list" f fd ["thing"] (spA K 1 Fis_list) := by
  refine Dd.mk' (Dd.fn.ok sc_is_list (fun vs H Q E h => spA_len h) (fun cdv A outer s H vs Q E hr h => ?_))
  refine ⟨_, (pss_one (ps_ret (pe_callB (isiTK K) (by rfl) B.isinstance (by decide +kernel) (pa_cons (pv 0) (pa_cons (pe_tup (pa_cons (bty "list" (by rfl) B.list (by decide +kernel)) (pa_cons (bty "tuple" (by rfl) B.tuple (by decide +kernel)) pa_nil))) pa_nil))))), wS_body h fun ss O P hl hf => ?_⟩
  obtain ⟨d, t, b, rfl, ht, hb, p⟩ := hf
  fail
  refine wE_isiT (ns := ["list", "tuple"]) ?_ (by decide)
  repeat fail
  exact ⟨_, _, _, rfl, ht, hb, p⟩
def Fis_one_of : FF := fun ss O P => ∃ s kvs z, ss = [s, .d (.str z)] ∧ Dct O s kvs ∧ P (.d (.bl (lookD kvs z).isSome)) O
abbrev s_is_one_of : Stmt := topS 14
theorem sc_is_one_of : FnScope ["known", "thing"] ["known", "thing"] (defScope s_is_one_of) := ⟨rfl, rfl, rfl, by decide +kernel, rfl, by decide +kernel, by decide +kernel⟩
theorem ok_is_one_of {f : Addr} {fd : FuncData} (Dd : Df K mg "is_one_of" "is_one_of" s_is_one_of f fd ["known", "thing"]) (B : BT mg) : Fn P w K mg base 1 "is_one_of" f fd ["known", "thing"] (spA K 2 Fis_one_of) := by
  refine Dd.mk' (Dd.fn.ok sc_is_one_of (fun vs H Q E h => spA_len h) (fun cdv A outer s H vs Q E hr h => ?_))
  have hu := hu_of hr
  refine ⟨_, (pss_one (ps_ret (pe_and (pe_callB (isiK K) (by rfl) B.isinstance (by decide +kernel) (pa_cons (pv 1) (pa_cons (bty "str" (by rfl) B.str (by decide +kernel)) pa_nil))) (pe_one (pe_cmp (pc_din hu (pv 1) (pv 0))))))), wS_body h fun ss O P hl hf => ?_⟩
  obtain ⟨s, kvs, z, rfl, hd, p⟩ := hf
  fail
  refine wE_andT ?_
  repeat fail
  refine ⟨_, _, true, rfl, rfl, by decide, rfl, ?_⟩
  repeat fail
  exact ⟨kvs, z, hd, rfl, p⟩
/-- a name that may be -/
structure NameOk (z : Str) : Prop where
  l0 : 0 < z.length
  l8 : z.length ≤ 8
  c0 : ∃ c, atI z.cps.toList 0 = some c ∧ c ∈ zSMALL.cps.toList
  nw : z ∉ zWORDS
  cs : ∀ c ∈ z.cps.toList, c ∈ (zSMALL ++ zFIGURES).cps.toList
  ok : PyData.strOk z = true
def Fis_name : FF := fun ss O P => ∃ z, ss = [.d (.str z)] ∧ NameOk z ∧ P (.d (.bl true)) O
abbrev s_is_name : Stmt := topS 13
theorem sc_is_name : FnScope ["thing", "sign"] ["thing"] (defScope s_is_name) := ⟨rfl, rfl, rfl, by decide +kernel, rfl, by decide +kernel, by decide +kernel⟩
theorem ok_is_name {f : Addr} {fd : FuncData} (Dd : Df K mg "is_name" "is_name" s_is_name f fd ["thing"]) (B : BT mg) (G : GT K mg C I W t1 t2) : Fn P w K mg base 1 "is_name" f fd ["thing"] (spA K 1 Fis_name) := by
  refine Dd.mk' (Dd.fn.ok sc_is_name (fun vs H Q E h => spA_len h) (fun cdv A outer s H vs Q E hr h => ?_))
  have hu := hu_of hr
  refine ⟨_, (pss_cons (ps_if (PW.pt (pw_or (pt_not (pt_val (pe_callB (isiK K) (by rfl) B.isinstance (by decide +kernel) (pa_cons (pv 0) (pa_cons (bty "str" (by rfl) B.str (by decide +kernel)) pa_nil))))) (pw_or (pt_not (pt_chain op_lt op_le pe_int (pe_callB call_len_str (by rfl) B.len (by decide +kernel) (pa_cons (pv 0) pa_nil)) pe_int)) (pw_or (pt_cmpR op_notIn_sign (pe_ix (ixK K) (pv 0) pe_int (fun _ _ => rfl)) (gstr zSMALL rfl G.SMALL) rfl) (pw_or1 (pt_cmpR (inK K) (pv 0) (gref W rfl G.WORDS) (by rfl))))))) (pss_one (ps_ret pe_bl)) pss_nil)
  (pss_one (ps_ret (pe_callB (allK K rfl) (by rfl) B.all (by decide +kernel) (pa_cons (pe_lc (own := [("sign", 1)]) rfl sc_is_name.nd (pi_str (pv 0)) (blkOk_by (by first | decide +kernel | rfl)) (fun _ _ _ _ _ => (pg_name (i := 1) sc_is_name.nd rfl (by first | exact Or.inl rfl | exact Or.inr rfl))) (fun _ _ _ _ _ => pts_nil) (fun _ _ _ _ _ => (pe_cmpR op_in_sign (pv 1) (pe_op op_add_str (gstr zSMALL rfl G.SMALL) (gstr zFIGURES rfl G.FIGURES)) rfl))) pa_nil))))), wS_body h fun ss O P hl hf => ?_⟩
  obtain ⟨z, rfl, hz, p⟩ := hf
  have hl8 : z.length ≤ sizeLine := Nat.le_trans hz.l8 (by decide)
  refine wS_seq (wS_ifF (wT_orF ?_))
  repeat fail
  refine ⟨_, _, true, rfl, rfl, by decide, true, rfl, rfl, ?_⟩
  refine wT_orF ?_
  repeat fail
  refine wE_chain ?_
  repeat fail
  refine a_lenS hl8 (a_lt ⟨_, rfl, fun _ => ?_, fun q => ?_⟩)
  · repeat fail
    refine a_le ⟨_, rfl, ?_, ?_⟩
    · have := hz.l8
      simp
      omega
    · refine wT_orF ?_
      repeat fail
      obtain ⟨c, hc, hcm⟩ := hz.c0
      refine a_ixS hl8 hc (wE_str (a_notInSign ⟨_, rfl, by simp [hcm], ?_⟩))
      repeat fail
      refine wE_c G.words (a_inStrs (.tup _) ⟨_, rfl, by simp [hz.nw], ?_⟩)
      repeat fail
      refine wE_allS (tgk_name (by decide)) (wI_str ?_)
      repeat fail
      refine ⟨z, rfl, z.cps.toList.map fun c => ⟨#[c]⟩, fun _ => true, by simp [signsD], ?_, fun _ _ => trivial, fun x hx acc a => ?_, ?_⟩
      · have := hz.l8
        rw [List.length_map]
        have e : z.cps.toList.length = z.length := by simp [PySem.Str.length]
        omega
      · obtain ⟨c, hc, rfl⟩ := List.mem_map.mp hx
        repeat fail
        refine a_addS (by decide) (a_inSign ⟨rfl, ?_⟩)
        rw [decide_eq_true (hz.cs c hc)]
      · rw [List.all_eq_true.mpr fun _ _ => rfl]
        exact p
  · have := hz.l0
    simp at q
    omega
def Fare_unlike : FF := fun ss O P => ∃ (kvs : List (Str × D)) (x : D) (zs : List Str), ss = [.d (.dct kvs), .d x] ∧ SeqD x (zs.map D.str) ∧ zs.length ≤ 1000 ∧ P (.d (.bl (zs.all (fun z => (lookD kvs z).isSome) && decide zs.Nodup))) O
abbrev s_are_unlike : Stmt := topS 15
theorem sc_are_unlike : FnScope ["known", "thing", "one"] ["known", "thing"] (defScope s_are_unlike) := ⟨rfl, rfl, rfl, by decide +kernel, rfl, by decide +kernel, by decide +kernel⟩
theorem ok_are_unlike {f f1 f2 : Addr} {fd fd1 fd2 : FuncData} (Dd : Df K mg "are_unlike" "are_unlike" s_are_unlike f fd ["known", "thing"]) (B : BT mg) (F_is_list : Fn P w K mg base 1 "is_list" f1 fd1 ["thing"] (spA K 1 Fis_list)) (F_is_one_of : Fn P w K mg base 1 "is_one_of" f2 fd2 ["known", "thing"] (spA K 2 Fis_one_of)) :
    Fn P w K mg base 2 "are_unlike" f fd ["known", "thing"] (spA K 2 Fare_unlike) := by
  refine Dd.mk' (Dd.fn.ok sc_are_unlike (fun vs H Q E h => spA_len h) (fun cdv A outer s H vs Q E hr h => ?_))
  have hu := hu_of hr
  refine ⟨_, (pss_cons (ps_if (PW.pt (pw_or (pt_not (pt_val (pe_fn F_is_list (hr.mono (by decide)) (by rfl) (pa_cons (pv 1) pa_nil)))) (pw_or1 (pt_not (pt_val (pe_callB (allK K rfl) (by rfl) B.all (by decide +kernel) (pa_cons (pe_lc (own := [("one", 2)]) rfl sc_are_unlike.nd (seqK K (pv 1)) (blkOk_by (by first | decide +kernel | rfl)) (fun _ _ _ _ _ => (pg_name (i := 2) sc_are_unlike.nd rfl (by first | exact Or.inl rfl | exact Or.inr rfl))) (fun _ _ _ _ _ => pts_nil) (fun _ _ _ _ _ => (pe_fn F_is_one_of (hr.mono (by decide)) (by rfl) (pa_cons (pv 0) (pa_cons (pv 2) pa_nil))))) pa_nil))))))) (pss_one (ps_ret pe_bl)) pss_nil)
  (pss_one (ps_ret (pe_cmpR op_eq (pe_callB call_lenR (by rfl) B.len (by decide +kernel) (pa_cons (pe_frz (pe_dc (own := [("one", 2)]) rfl sc_are_unlike.nd (seqK K (pv 1)) (blkOk_by (by first | decide +kernel | rfl)) (fun _ _ _ _ _ => (pg_name (i := 2) sc_are_unlike.nd rfl (by first | exact Or.inl rfl | exact Or.inr rfl))) (fun _ _ _ _ _ => pts_nil) (fun _ _ _ _ _ => (pv 2)) (fun _ _ _ _ _ => pe_bl))) pa_nil)) (pe_callB (lenSeqK K) (by rfl) B.len (by decide +kernel) (pa_cons (pv 1) pa_nil)) (nomark _))))), wS_body h fun ss O P hl hf => ?_⟩
  obtain ⟨kvs, x, zs, rfl, hx, hz, p⟩ := hf
  obtain ⟨t, ht, hk⟩ := hx.isList
  refine wS_seq (wS_if (wT_orF ?_))
  repeat fail
  refine ⟨rfl, _, _, _, rfl, ht, hk, true, rfl, rfl, ?_⟩
  repeat fail
  refine wE_allS (tgk_name (by decide)) (wI_seq ?_)
  repeat fail
  refine ⟨_, hx _, zs, fun z => (lookD kvs z).isSome, rfl, by omega, fun acc a => hx _, fun z hz acc a => ?_, _, rfl, fun hb => ?_, fun hb => ?_⟩
  · repeat fail
    exact ⟨rfl, _, kvs, z, rfl, .dct _, rfl, rfl⟩
  · repeat fail
    have e : (zs.all fun z => (lookD kvs z).isSome) = false := by simpa using hb
    rw [e] at p
    exact p
  · repeat fail
    have e : (zs.all fun z => (lookD kvs z).isSome) = true := by simpa using hb
    rw [e, Bool.true_and] at p
    refine wE_dcS (tgk_name (by decide)) (wI_seq ?_)
    repeat fail
    refine ⟨_, hx _, zs, fun z => some (z, .bl true), rfl, by omega, fun acc a => hx _, fun z hz acc a => ?_, fun a => ⟨99, a, _, rfl, rfl, ?_⟩⟩
    · repeat fail
      refine ⟨fun _ => ?_, fun q => by cases q⟩
      repeat fail
      exact ⟨rfl, _, _, rfl, rfl, rfl⟩
    · repeat fail
      refine a_lenD (.dct _) ?_
      repeat fail
      refine a_lenSeq (hx _) (a_eqInt ?_)
      have el : ((putAll [] (zs.filterMap fun z => some (z, D.bl true))).length : Int) = ((putAll [] (zs.map fun z => (z, D.bl true))).length : Int) := by rw [filterMap_some]
      have h1 := putAll_len_eq (l := zs.map fun z => (z, D.bl true))
      simp only [List.length_map, List.map_map] at h1
      have e1 : ((fun p : Str × D => p.1) ∘ fun z => (z, D.bl true)) = id := rfl
      rw [e1, List.map_id] at h1
      rw [el, List.length_map, h1]
      exact p
end
end Y

/-! k61: the stock and its allotments. -/
namespace Y
open PySem PySem.Spec PyProof.Rows L2
local macro_rules | `(tactic| fail) => `(tactic| ((first
  | with_reducible refine wS_seq ?_
  | with_reducible refine wS_ret ?_
  | with_reducible refine wS_set ?_
  | with_reducible refine wS_asgTup ?_
  | with_reducible refine wS_asg ?_
  | with_reducible refine wS_par ?_
  | with_reducible refine wS_drop ?_
  | with_reducible refine wS_dput ?_
  | with_reducible refine wS_fld ?_
  | with_reducible refine wS_next ?_
  | with_reducible refine wS_nextE ?_
  | with_reducible refine wS_brkE ?_
  | with_reducible refine wS_brk ?_
  | with_reducible refine wT_B ?_
  | with_reducible refine wT_Test ?_
  | with_reducible refine wT_not ?_
  | with_reducible refine wT_yes ?_
  | (with_reducible refine wE_var' ?_; refine ⟨_, rfl, ?_⟩)
  | with_reducible refine wE_int ?_
  | with_reducible refine wE_bl ?_
  | with_reducible refine wE_str ?_
  | with_reducible refine wE_non ?_
  | with_reducible refine wE_op ?_
  | with_reducible refine wE_un ?_
  | with_reducible refine wE_isi ?_
  | with_reducible refine wE_cbLen ?_
  | with_reducible refine wE_cbLenS ?_
  | with_reducible refine wE_cbLenD ?_
  | with_reducible refine wE_cbListOf ?_
  | with_reducible refine wE_cbTup ?_
  | with_reducible refine wE_isN ?_
  | with_reducible refine wE_notN ?_
  | with_reducible refine a_neg ?_
  | with_reducible refine wA_nil ?_
  | with_reducible refine wA_cons ?_
  | with_reducible refine wA_star ?_
  | with_reducible refine wE_sl ?_
  | with_reducible refine wO_none ?_
  | with_reducible refine wO_some ?_
  | with_reducible refine wE_notV ?_
  | with_reducible refine wE_dget ?_
  | with_reducible refine wE_din ?_
  | with_reducible refine wE_dnotin ?_
  | with_reducible refine wE_fld ?_
  | with_reducible refine wE_frz ?_
  | with_reducible refine wE_bmL ?_
  | with_reducible refine wE_call ?_
  | with_reducible refine wG_name ?_
  | with_reducible refine wG_tup rfl ?_
  | with_reducible refine wGs_consM ?_
  | with_reducible refine wGs_nilM ?_
  | with_reducible refine wGs_nil ?_
  | with_reducible refine wGs_cons ?_) <;> (try dsimp only)))

section
variable {P : Program} {w : World} {K : PySem.W.Frag} {mg : Str → Option Value} {base : Heap} {C I W : Addr} {t1 t2 : Tok}
abbrev sD (ys : List Str) : List D := ys.map D.str
structure NamesOk (ys : List Str) : Prop where
  nd : ys.Nodup
  ok : ∀ z ∈ ys, NameOk z
  few : ys.length ≤ 20
def Fchecked_people : FF := fun ss O P => ∃ (x : D) (ys : List Str), ss = [.d x] ∧ SeqD x (sD ys) ∧ NamesOk ys ∧ P (.d (.lst (sD ys))) O
abbrev s_checked_people : Stmt := topS 17
theorem sc_checked_people : FnScope ["people", "met", "index", "thing"] ["people"] (defScope s_checked_people) := ⟨rfl, rfl, rfl, by decide +kernel, rfl, by decide +kernel, by decide +kernel⟩
theorem ok_checked_people {f f1 f2 : Addr} {fd fd1 fd2 : FuncData} (Dd : Df K mg "checked_people" "checked_people" s_checked_people f fd ["people"]) (B : BT mg) (F_is_list : Fn P w K mg base 1 "is_list" f1 fd1 ["thing"] (spA K 1 Fis_list)) (F_is_name : Fn P w K mg base 1 "is_name" f2 fd2 ["thing"] (spA K 1 Fis_name)) :
    Fn P w K mg base 2 "checked_people" f fd ["people"] (spA K 1 Fchecked_people) := by
  refine Dd.mk' (Dd.fn.ok sc_checked_people (fun vs H Q E h => spA_len h) (fun cdv A outer s H vs Q E hr h => ?_))
  have hu := hu_of hr
  refine ⟨_, (pss_cons (ps_if (pt_not (pt_val (pe_fn F_is_list (hr.mono (by decide)) (by rfl) (pa_cons (pv 0) pa_nil)))) (pss_one ps_never) pss_nil)
  (pss_cons (ps_set (i := 1) sc_checked_people.nd rfl (Or.inl rfl) pe_dnewK)
  (pss_cons (ps_for PassesOwn.never rfl (enumK K (by rfl) B.enumerate (pa_cons (pv 0) pa_nil)) (tupK K 2 rfl (pgs_cons (pg_name (i := 2) sc_checked_people.nd rfl (Or.inl rfl)) (pgs_cons (pg_name (i := 3) sc_checked_people.nd rfl (Or.inl rfl)) pgs_nil)))
  (pss_cons (ps_if (PW.pt (pw_or (pt_not (pt_val (pe_fn F_is_name (hr.mono (by decide)) (by rfl) (pa_cons (pv 3) pa_nil)))) (pw_or1 (pt_cmp (pc_din hu (pv 3) (pv 1)))))) (pss_one ps_never) pss_nil)
  (pss_one (ps_dput hu (pv 1) (pv 3) pe_bl rfl))))
  (pss_one (ps_ret (pe_callTy (listOfK K) (by rfl) B.list (by decide +kernel) (pa_cons (pv 0) pa_nil))))))), wS_body h fun ss O P hl hf => ?_⟩
  obtain ⟨x, ys, rfl, hx, hn, p⟩ := hf
  obtain ⟨t, ht, hk⟩ := hx.isList
  refine wS_seq (wS_ifF ?_)
  repeat fail
  refine ⟨rfl, _, _, _, rfl, ht, hk, _, rfl, rfl, ?_⟩
  repeat fail
  refine wE_dnewOwn 1 fun a => ?_
  repeat fail
  refine wS_for (wI_enumB ?_)
  repeat fail
  refine ⟨_, _, rfl, hx _, fun i Γ' O' => ∃ x2 x3, Γ' = [some (.d x), some (.p 1 a), x2, x3] ∧ O' = (1, a, .ok (funD (fun _ => .bl true) (ys.take i))) :: O, ⟨none, none, rfl, rfl⟩, ?_, ?_, ?_⟩
  · rintro i Γ' O' -
    exact hx _
  · rintro i d Γ' O' hd ⟨x2, x3, rfl, rfl⟩
    obtain ⟨y, hy, rfl⟩ := enumD_get hd
    obtain ⟨z, hz, hzi, rfl⟩ := mem_of_strs hy
    have hnot := not_mem_take hn.nd hzi
    repeat fail
    refine wS_ifF (wT_orF ?_)
    repeat fail
    refine ⟨rfl, z, rfl, hn.ok z hz, _, rfl, rfl, ?_⟩
    repeat fail
    refine ⟨_, z, .own rfl, rfl, _, rfl, by rw [lookD_some]; simpa using hnot, ?_⟩
    repeat fail
    refine ⟨_, 1, a, _, z, rfl, rfl, rfl, rfl, ?_, _, _, rfl, ?_⟩
    · rw [funD_len, List.length_take]
      have := hn.few
      omega
    · show (1, a, OD.ok (putD (funD (fun _ => D.bl true) (ys.take i)) z (.bl true))) :: O = _
      rw [putD_funD (f := fun _ => D.bl true) hnot, take_next hzi]
  · rintro Γ' O' ⟨x2, x3, rfl, rfl⟩
    fail
    refine wE_forget 1 ?_
    repeat fail
    exact a_listOf (hx _) p
def Fchecked_goods : FF := fun ss O P => ∃ (x : D) (ys : List Str), ss = [.d x, .d (.int ys.length)] ∧ SeqD x (sD ys) ∧ NamesOk ys ∧ P (.d (.lst (sD ys))) O
abbrev s_checked_goods : Stmt := topS 19
theorem sc_checked_goods : FnScope ["things", "many", "index", "thing"] ["things", "many"] (defScope s_checked_goods) := ⟨rfl, rfl, rfl, by decide +kernel, rfl, by decide +kernel, by decide +kernel⟩
theorem ok_checked_goods {f f1 f2 : Addr} {fd fd1 fd2 : FuncData} (Dd : Df K mg "checked_goods" "checked_goods" s_checked_goods f fd ["things", "many"]) (B : BT mg) (F_is_list : Fn P w K mg base 1 "is_list" f1 fd1 ["thing"] (spA K 1 Fis_list)) (F_is_name : Fn P w K mg base 1 "is_name" f2 fd2 ["thing"] (spA K 1 Fis_name)) :
    Fn P w K mg base 2 "checked_goods" f fd ["things", "many"] (spA K 2 Fchecked_goods) := by
  refine Dd.mk' (Dd.fn.ok sc_checked_goods (fun vs H Q E h => spA_len h) (fun cdv A outer s H vs Q E hr h => ?_))
  have hu := hu_of hr
  refine ⟨_, (pss_cons (ps_if (pt_not (pt_val (pe_fn F_is_list (hr.mono (by decide)) (by rfl) (pa_cons (pv 0) pa_nil)))) (pss_one ps_never) pss_nil)
  (pss_cons (ps_for PassesOwn.never rfl (enumK K (by rfl) B.enumerate (pa_cons (pv 0) pa_nil)) (tupK K 2 rfl (pgs_cons (pg_name (i := 2) sc_checked_goods.nd rfl (Or.inl rfl)) (pgs_cons (pg_name (i := 3) sc_checked_goods.nd rfl (Or.inl rfl)) pgs_nil)))
  (pss_one (ps_if (PW.pt (pw_or (pt_cmpR op_ge (pv 2) (pv 1) (nomark _)) (pw_or (pt_not (pt_val (pe_fn F_is_name (hr.mono (by decide)) (by rfl) (pa_cons (pv 3) pa_nil)))) (pw_or1 (pt_cmpR (inK K) (pv 3) (pe_slice (slQK K) (pv 0) po_none (po_some (pv 2))) (by rfl)))))) (pss_one ps_never) pss_nil)))
  (pss_cons (ps_if (pt_cmpR op_lt (pe_callB (lenSeqK K) (by rfl) B.len (by decide +kernel) (pa_cons (pv 0) pa_nil)) (pv 1) (nomark _)) (pss_one ps_never) pss_nil)
  (pss_one (ps_ret (pe_callTy (listOfK K) (by rfl) B.list (by decide +kernel) (pa_cons (pv 0) pa_nil))))))), wS_body h fun ss O P hl hf => ?_⟩
  obtain ⟨x, ys, rfl, hx, hn, p⟩ := hf
  obtain ⟨t, ht, hk⟩ := hx.isList
  refine wS_seq (wS_ifF ?_)
  repeat fail
  refine ⟨rfl, _, _, _, rfl, ht, hk, _, rfl, rfl, ?_⟩
  repeat fail
  refine wS_for (wI_enumB ?_)
  repeat fail
  refine ⟨_, _, rfl, hx _, fun i Γ' O' => ∃ x2 x3, Γ' = [some (.d x), some (.d (.int ys.length)), x2, x3] ∧ O' = O, ⟨none, none, rfl, rfl⟩, ?_, ?_, ?_⟩
  · rintro i Γ' O' -
    exact hx _
  · rintro i d Γ' O' hd ⟨x2, x3, rfl, rfl⟩
    obtain ⟨y, hy, rfl⟩ := enumD_get hd
    obtain ⟨z, hz, hzi, rfl⟩ := mem_of_strs hy
    have hnot := not_mem_take hn.nd hzi
    have hlt := (List.getElem?_eq_some_iff.mp hzi).1
    repeat fail
    refine wS_ifF (wT_orF ?_)
    repeat fail
    refine a_ge ⟨_, rfl, decide_eq_false (by omega), wT_orF ?_⟩
    repeat fail
    refine ⟨rfl, z, rfl, hn.ok z hz, _, rfl, rfl, ?_⟩
    repeat fail
    refine ⟨_, rfl, ?_⟩
    repeat fail
    refine a_slAny (hx _) fun y hy => ?_
    rw [cutD_to, ← List.map_take] at hy
    refine a_inStrs hy ⟨_, rfl, by simpa using hnot, ?_⟩
    repeat fail
    exact ⟨_, _, rfl, rfl⟩
  · rintro Γ' O' ⟨x2, x3, rfl, rfl⟩
    refine wS_seq (wS_ifF ?_)
    repeat fail
    refine a_lenSeq (hx _) ?_
    repeat fail
    refine a_lt ⟨_, rfl, decide_eq_false (by simp), ?_⟩
    repeat fail
    exact a_listOf (hx _) p
/-- a row given as a list or a tuple -/
def Loose (d : D) (row : List Str) : Prop := d = .lst (sD row) ∨ d = .rt (sD row)
theorem Loose.seq {d : D} {row : List Str} (h : Loose d row) : SeqD d (sD row) := by
  rcases h with rfl | rfl
  · exact .lst _
  · exact .rt _
theorem Loose.seqR {d : D} {row : List Str} {O : OO} (h : Loose d row) : SeqR O (.d d) (sD row) := by
  rcases h with rfl | rfl
  · exact .lst _
  · exact .rt _
/-- a row of all the things for each of all the people -/
structure RowsOk (ps ts : List Str) (rw : Str → List Str) : Prop where
  perm : ∀ p ∈ ps, (rw p).Perm ts
def Fare_rows : FF := fun ss O P => ∃ (ps ts qs : List Str) (wf : Str → D) (rw : Str → List Str), ss = [.d (.lst (sD ps)), .d (setD ts), .d (.dct (funD wf qs))] ∧ NamesOk ps ∧ NamesOk ts ∧ qs.Perm ps ∧ RowsOk ps ts rw ∧ (∀ p ∈ ps, Loose (wf p) (rw p)) ∧ P (.d (.bl true)) O
abbrev s_are_rows : Stmt := topS 20
theorem sc_are_rows : FnScope ["people", "known", "thing", "person"] ["people", "known", "thing"] (defScope s_are_rows) := ⟨rfl, rfl, rfl, by decide +kernel, rfl, by decide +kernel, by decide +kernel⟩
theorem ok_are_rows {f f1 : Addr} {fd fd1 : FuncData} (Dd : Df K mg "are_rows" "are_rows" s_are_rows f fd ["people", "known", "thing"]) (B : BT mg) (F_are_unlike : Fn P w K mg base 2 "are_unlike" f1 fd1 ["known", "thing"] (spA K 2 Fare_unlike)) :
    Fn P w K mg base 3 "are_rows" f fd ["people", "known", "thing"] (spA K 3 Fare_rows) := by
  refine Dd.mk' (Dd.fn.ok sc_are_rows (fun vs H Q E h => spA_len h) (fun cdv A outer s H vs Q E hr h => ?_))
  have hu := hu_of hr
  refine ⟨_, (pss_cons (ps_if (PW.pt (pw_or (pt_not (pt_val (pe_callB (isiK K) (by rfl) B.isinstance (by decide +kernel) (pa_cons (pv 2) (pa_cons (bty "dict" (by rfl) B.dict (by decide +kernel)) pa_nil))))) (pw_or1 (pt_not (pt_val (pe_callB (allK K rfl) (by rfl) B.all (by decide +kernel) (pa_cons (pe_lc (own := [("person", 3)]) rfl sc_are_rows.nd (pi_keys (pv 2)) (blkOk_by (by first | decide +kernel | rfl)) (fun _ _ _ _ _ => (pg_name (i := 3) sc_are_rows.nd rfl (by first | exact Or.inl rfl | exact Or.inr rfl))) (fun _ _ _ _ _ => pts_nil) (fun _ _ _ _ _ => (pe_and (pe_callB (isiK K) (by rfl) B.isinstance (by decide +kernel) (pa_cons (pv 3) (pa_cons (bty "str" (by rfl) B.str (by decide +kernel)) pa_nil))) (pe_one (pe_cmpR (inK K) (pv 3) (pv 0) (by rfl)))))) pa_nil))))))) (pss_one (ps_ret pe_bl)) pss_nil)
  (pss_cons (ps_if (pt_cmpR op_ne (pe_callB call_lenR (by rfl) B.len (by decide +kernel) (pa_cons (pv 2) pa_nil)) (pe_callB (lenSeqK K) (by rfl) B.len (by decide +kernel) (pa_cons (pv 0) pa_nil)) (nomark _)) (pss_one (ps_ret pe_bl)) pss_nil)
  (pss_one (ps_ret (pe_callB (allK K rfl) (by rfl) B.all (by decide +kernel) (pa_cons (pe_lc (own := [("person", 3)]) rfl sc_are_rows.nd (pi_keys (pv 2)) (blkOk_by (by first | decide +kernel | rfl)) (fun _ _ _ _ _ => (pg_name (i := 3) sc_are_rows.nd rfl (by first | exact Or.inl rfl | exact Or.inr rfl))) (fun _ _ _ _ _ => pts_nil) (fun _ _ _ _ _ => (pe_and (pe_fn F_are_unlike (hr.mono (by decide)) (by rfl) (pa_cons (pv 1) (pa_cons (pe_dget hu (pv 2) (pv 3) (fun _ _ => rfl)) pa_nil))) (pe_one (pe_cmpR op_eq (pe_callB (lenSeqK K) (by rfl) B.len (by decide +kernel) (pa_cons (pe_dget hu (pv 2) (pv 3) (fun _ _ => rfl)) pa_nil)) (pe_callB call_lenR (by rfl) B.len (by decide +kernel) (pa_cons (pv 1) pa_nil)) (nomark _)))))) pa_nil)))))), wS_body h fun ss O P hl hf => ?_⟩
  obtain ⟨ps, ts, qs, wf, rw, rfl, hps, hts, hq, hrw, hw, p⟩ := hf
  have hql : qs.length ≤ 20 := by rw [hq.length_eq]; exact hps.few
  refine wS_seq (wS_ifF (wT_orF ?_))
  repeat fail
  refine ⟨_, _, true, rfl, rfl, by decide, _, rfl, rfl, ?_⟩
  repeat fail
  refine wE_allS (tgk_name (by decide)) (wI_keys ?_)
  repeat fail
  refine ⟨_, rfl, qs, fun _ => true, keysD_funD _ _, by omega, fun _ _ => trivial, fun z hz acc a => ?_, _, rfl, by simp, ?_⟩
  · repeat fail
    refine wE_andT ?_
    repeat fail
    refine ⟨_, _, true, rfl, rfl, by decide, rfl, ?_⟩
    repeat fail
    refine a_inStrs (.lst _) ⟨rfl, ?_⟩
    rw [decide_eq_true (hq.mem_iff.mp hz)]
  · fail
    refine wS_seq (wS_ifF ?_)
    repeat fail
    refine a_lenD (.dct _) ?_
    repeat fail
    refine a_lenSeq (.lst _) (a_neInt ⟨_, rfl, ?_, ?_⟩)
    · rw [funD_len, List.length_map, hq.length_eq]
      simp
    · repeat fail
      refine wE_allS (tgk_name (by decide)) (wI_keys ?_)
      repeat fail
      refine ⟨_, rfl, qs, fun _ => true, keysD_funD _ _, by omega, fun _ _ => trivial, fun z hz acc a => ?_, ?_⟩
      · have hzp := hq.mem_iff.mp hz
        have hl := (hw z hzp).seq
        have hpm := hrw.perm z hzp
        repeat fail
        refine wE_andT ?_
        repeat fail
        refine ⟨_, z, _, .dct _, rfl, lookD_in hz, ?_⟩
        repeat fail
        refine ⟨rfl, _, _, rw z, rfl, hl, ?_, ?_, ?_⟩
        · rw [hpm.length_eq]
          have := hts.few
          omega
        · congr 2
          rw [Bool.and_eq_true, List.all_eq_true]
          refine ⟨fun y hy => ?_, decide_eq_true (hpm.nodup_iff.mpr hts.nd)⟩
          rw [lookD_some]
          exact decide_eq_true (hpm.mem_iff.mp hy)
        · repeat fail
          refine ⟨_, z, _, .dct _, rfl, lookD_in hz, ?_⟩
          repeat fail
          refine a_lenSeq (hl _) ?_
          repeat fail
          refine a_lenD (.dct _) (a_eqInt ⟨rfl, ?_⟩)
          rw [funD_len, List.length_map, hpm.length_eq]
          simp
      · rw [List.all_eq_true.mpr fun _ _ => rfl]
        exact p
/-! ### the stock -/
def rtS (rw : Str → List Str) (p : Str) : D := .rt (sD (rw p))
def stockF (ps ts ys : List Str) (rw : Str → List Str) : List (Str × D) := putF' "own_rows" (.dct (funD (rtS rw) ys)) (putF' "own_things" (.lst (sD ts)) (putF' "own_people" (.lst (sD ps)) []))
def stockD (C : Addr) (ps ts ys : List Str) (rw : Str → List Str) : D := .obj C (stockF ps ts ys rw)
theorem stockF_eq (ps ts ys : List Str) (rw : Str → List Str) : stockF ps ts ys rw = ([("own_people", D.lst (sD ps)), ("own_things", D.lst (sD ts)), ("own_rows", D.dct (funD (rtS rw) ys))] : List (Str × D)) := by
  have e1 : ¬ (("own_people" : Str) = "own_things") := by decide +kernel
  have e2 : ¬ (("own_people" : Str) = "own_rows") := by decide +kernel
  have e3 : ¬ (("own_things" : Str) = "own_rows") := by decide +kernel
  unfold stockF
  simp only [putF', if_neg e1, if_neg e2, if_neg e3]
theorem stock1 (ps : List Str) : (putF' "own_people" (D.lst (sD ps)) []).lookup ("own_people" : Str) = some (.lst (sD ps)) := by
  show List.lookup ("own_people" : Str) [(("own_people" : Str), D.lst (sD ps))] = _
  rw [List.lookup_cons, show (("own_people" : Str) == "own_people") = true by decide +kernel]
theorem stock2_eq (ps ts : List Str) : putF' "own_things" (.lst (sD ts)) (putF' "own_people" (.lst (sD ps)) []) = ([("own_people", D.lst (sD ps)), ("own_things", D.lst (sD ts))] : List (Str × D)) := by
  have e1 : ¬ (("own_people" : Str) = "own_things") := by decide +kernel
  simp only [putF', if_neg e1]
theorem stock2 (ps ts : List Str) : (putF' "own_things" (.lst (sD ts)) (putF' "own_people" (.lst (sD ps)) [])).lookup ("own_people" : Str) = some (.lst (sD ps)) := by
  rw [stock2_eq, List.lookup_cons, show (("own_people" : Str) == "own_people") = true by decide +kernel]
theorem stock2t (ps ts : List Str) : (putF' "own_things" (.lst (sD ts)) (putF' "own_people" (.lst (sD ps)) [])).lookup ("own_things" : Str) = some (.lst (sD ts)) := by
  rw [stock2_eq, List.lookup_cons, show (("own_things" : Str) == "own_people") = false by decide +kernel, List.lookup_cons, show (("own_things" : Str) == "own_things") = true by decide +kernel]
theorem stock_people (ps ts ys : List Str) (rw : Str → List Str) : (stockF ps ts ys rw).lookup ("own_people" : Str) = some (.lst (sD ps)) := by
  rw [stockF_eq, List.lookup_cons, show (("own_people" : Str) == "own_people") = true by decide +kernel]
theorem stock_things (ps ts ys : List Str) (rw : Str → List Str) : (stockF ps ts ys rw).lookup ("own_things" : Str) = some (.lst (sD ts)) := by
  rw [stockF_eq, List.lookup_cons, show (("own_things" : Str) == "own_people") = false by decide +kernel, List.lookup_cons, show (("own_things" : Str) == "own_things") = true by decide +kernel]
theorem stock_rows (ps ts ys : List Str) (rw : Str → List Str) : (stockF ps ts ys rw).lookup ("own_rows" : Str) = some (.dct (funD (rtS rw) ys)) := by
  rw [stockF_eq, List.lookup_cons, show (("own_rows" : Str) == "own_people") = false by decide +kernel, List.lookup_cons, show (("own_rows" : Str) == "own_things") = false by decide +kernel, List.lookup_cons, show (("own_rows" : Str) == "own_rows") = true by decide +kernel]
structure StockOk (a b c : List Str) (rw : Str → List Str) : Prop where
  ps : NamesOk a
  ts : NamesOk b
  len : a.length = b.length
  ys : c.Perm a
  so : sortedS c = true
  rows : RowsOk a b rw
def FStock (C : Addr) : FF := fun ss O P => ∃ (a dx : Addr) (xp xt : D) (ps ts qs : List Str) (wf : Str → D) (rw : Str → List Str) (O1 : OO), ss = [.p 50 a, .d xp, .d xt, .d (.dct (funD wf qs))] ∧ O = (50, a, .oi C dx []) :: O1 ∧ SeqD xp (sD ps) ∧ SeqD xt (sD ts) ∧ NamesOk ps ∧ NamesOk ts ∧ ps.length = ts.length ∧ qs.Perm ps ∧ RowsOk ps ts rw ∧ (∀ p ∈ ps, Loose (wf p) (rw p)) ∧
  ∀ ys, StockOk ps ts ys rw → P (.d .non) ((50, a, .oi C dx (stockF ps ts ys rw)) :: O1)
abbrev s_Stock___init__ : Stmt := inClass (topS 21) 0
theorem sc_Stock___init__ : FnScope ["self", "people", "things", "wishes", "thing", "person"] ["self", "people", "things", "wishes"] (defScope s_Stock___init__) := ⟨rfl, rfl, rfl, by decide +kernel, rfl, by decide +kernel, by decide +kernel⟩
theorem ok_Stock_init {f f1 f2 f3 : Addr} {fd fd1 fd2 fd3 : FuncData} (Dd : Fun K "__init__" "Stock.__init__" s_Stock___init__ f fd) (B : BT mg) (G : GT K mg C I W t1 t2) (F_checked_people : Fn P w K mg base 2 "checked_people" f1 fd1 ["people"] (spA K 1 Fchecked_people)) (F_checked_goods : Fn P w K mg base 2 "checked_goods" f2 fd2 ["things", "many"] (spA K 2 Fchecked_goods)) (F_are_rows : Fn P w K mg base 3 "are_rows" f3 fd3 ["people", "known", "thing"] (spA K 3 Fare_rows)) :
    FnOk P w K mg base CX0 4 f fd ["self", "people", "things", "wishes"] (spA K 4 (FStock C)) := by
  refine (Dd.ok sc_Stock___init__ (fun vs H Q E h => spA_len h) (fun cdv A outer s H vs Q E hr h => ?_))
  have hu := hu_of hr
  refine ⟨_, (pss_cons (putFldK K (pv 0) (pe_fn F_checked_people (hr.mono (by decide)) (by rfl) (pa_cons (pv 1) pa_nil)) rfl)
  (pss_cons (putFldK K (pv 0) (pe_fn F_checked_goods (hr.mono (by decide)) (by rfl) (pa_cons (pv 2) (pa_cons (pe_callB (lenSeqK K) (by rfl) B.len (by decide +kernel) (pa_cons (fldK K (pv 0) rfl) pa_nil)) pa_nil))) rfl)
  (pss_cons (ps_if (pt_not (pt_val (pe_fn F_are_rows (hr.mono (by decide)) (by rfl) (pa_cons (fldK K (pv 0) rfl) (pa_cons (pe_frz (pe_dc (own := [("thing", 4)]) rfl sc_Stock___init__.nd (seqK K (fldK K (pv 0) rfl)) (blkOk_by (by first | decide +kernel | rfl)) (fun _ _ _ _ _ => (pg_name (i := 4) sc_Stock___init__.nd rfl (by first | exact Or.inl rfl | exact Or.inr rfl))) (fun _ _ _ _ _ => pts_nil) (fun _ _ _ _ _ => (pv 4)) (fun _ _ _ _ _ => pe_bl))) (pa_cons (pv 3) pa_nil)))))) (pss_one ps_never) pss_nil)
  (pss_one (putFldK K (pv 0) (pe_frz (pe_dc (own := [("person", 5)]) rfl sc_Stock___init__.nd (seqK K (pe_callB (sortedSK K) (by rfl) B.sorted (by decide +kernel) (pa_cons (fldK K (pv 0) rfl) pa_nil))) (blkOk_by (by first | decide +kernel | rfl)) (fun _ _ _ _ _ => (pg_name (i := 5) sc_Stock___init__.nd rfl (by first | exact Or.inl rfl | exact Or.inr rfl))) (fun _ _ _ _ _ => pts_nil) (fun _ _ _ _ _ => (pv 5)) (fun _ _ _ _ _ => (pe_callTy (tupRK K) (by rfl) B.tuple (by decide +kernel) (pa_cons (pe_dget hu (pv 3) (pv 5) (fun _ _ => rfl)) pa_nil))))) rfl))))), wS_body h fun ss O P hl hf => ?_⟩
  obtain ⟨a, dx, xp, xt, ps, ts, qs, wf, rw, O1, rfl, rfl, hxp, hxt, hps, hts, hlen, hq, hrw, hw, p⟩ := hf
  have nPT : ¬ (("own_people" : Str) = "own_things") := by decide +kernel
  repeat fail
  refine ⟨rfl, xp, ps, rfl, hxp, hps, ?_⟩
  repeat fail
  refine ⟨_, 50, a, C, dx, _, rfl, rfl, rfl, G.cS.cl, G.nP, (by show 0 < 1000; decide), ?_⟩
  repeat fail
  refine ⟨C, _, _, .own rfl, G.cS.cl, G.nP, stock1 ps, ?_⟩
  repeat fail
  refine a_lenSeq (.lst _) ?_
  repeat fail
  refine ⟨rfl, xt, ts, by rw [List.length_map, hlen], hxt, hts, ?_⟩
  repeat fail
  refine ⟨_, 50, a, C, dx, _, rfl, rfl, rfl, G.cS.cl, G.nT, (by show 1 < 1000; decide), ?_⟩
  fail
  refine wS_seq (wS_ifF ?_)
  repeat fail
  refine ⟨C, _, _, .own rfl, G.cS.cl, G.nP, stock2 ps ts, ?_⟩
  repeat fail
  refine wE_dcS (tgk_name (by decide)) (wI_seq ?_)
  repeat fail
  refine ⟨C, _, _, .own rfl, G.cS.cl, G.nT, stock2t ps ts, ?_⟩
  refine ⟨_, .lst _, ts, fun z => some (z, .bl true), rfl, ?_, fun acc a => .lst _, fun z hz acc a => ?_, fun b => ⟨99, b, _, rfl, rfl, ?_⟩⟩
  · have := hts.few; omega
  · repeat fail
    refine ⟨fun _ => ?_, fun q => by cases q⟩
    repeat fail
    exact ⟨rfl, _, _, rfl, rfl, rfl⟩
  · repeat fail
    have e : putAll [] (ts.filterMap fun z => some (z, D.bl true)) = funD (fun _ => .bl true) ts := by
      rw [filterMap_funD (fun _ => D.bl true), putAll_funD hts.nd]
    rw [e]
    refine ⟨rfl, ps, ts, qs, wf, rw, rfl, hps, hts, hq, hrw, hw, _, rfl, rfl, ?_⟩
    repeat fail
    refine wE_dcS (tgk_name (by decide)) (wI_seq (wE_cb ?_))
    repeat fail
    refine ⟨C, _, _, .own rfl, G.cS.cl, G.nP, stock2 ps ts, ?_⟩
    repeat fail
    refine a_sorted (.lst _) (Nat.lt_of_le_of_lt hps.few (by decide)) fun ys hys hso => ?_
    refine ⟨_, .lst _, ys, fun z => some (z, rtS rw z), rfl, ?_, fun acc a => .lst _, fun z hz acc a => ?_, fun b => ⟨99, b, _, rfl, rfl, ?_⟩⟩
    · have := hps.few; rw [hys.length_eq]; omega
    · have hzp := hys.mem_iff.mp hz
      repeat fail
      refine ⟨fun _ => ?_, fun q => by cases q⟩
      repeat fail
      refine ⟨_, z, _, .dct _, rfl, lookD_in (hq.mem_iff.mpr hzp), ?_⟩
      repeat fail
      exact a_tuple (hw z hzp).seqR ⟨rfl, _, _, rfl, rfl, rfl⟩
    · repeat fail
      have e2 : putAll [] (ys.filterMap fun z => some (z, rtS rw z)) = funD (rtS rw) ys := by
        rw [filterMap_funD (rtS rw), putAll_funD (hys.nodup_iff.mpr hps.nd)]
      rw [e2]
      refine ⟨_, 50, a, C, dx, _, rfl, rfl, rfl, G.cS.cl, G.nR, (by rw [stock2_eq]; show 2 < 1000; decide), ?_⟩
      exact p ys ⟨hps, hts, hlen, hys, hso, hrw⟩
def Fchecked_stock (C : Addr) : FF := fun ss O P => ∃ fs, ss = [.d (.obj C fs)] ∧ P (.d (.obj C fs)) O
abbrev s_checked_stock : Stmt := topS 22
theorem sc_checked_stock : FnScope ["stock"] ["stock"] (defScope s_checked_stock) := ⟨rfl, rfl, rfl, by decide +kernel, rfl, by decide +kernel, by decide +kernel⟩
theorem ok_checked_stock {f : Addr} {fd : FuncData} (Dd : Df K mg "checked_stock" "checked_stock" s_checked_stock f fd ["stock"]) (B : BT mg) (G : GT K mg C I W t1 t2) :
    Fn P w K mg base 1 "checked_stock" f fd ["stock"] (spA K 1 (Fchecked_stock C)) := by
  refine Dd.mk' (Dd.fn.ok sc_checked_stock (fun vs H Q E h => spA_len h) (fun cdv A outer s H vs Q E hr h => ?_))
  refine ⟨_, (pss_cons (ps_if (pt_not (pt_val (pe_callB (isiK K) (by rfl) B.isinstance (by decide +kernel) (pa_cons (pv 0) (pa_cons (gref _ rfl G.Stock) pa_nil))))) (pss_one ps_never) pss_nil)
  (pss_one (ps_ret (pv 0)))), wS_body h fun ss O P hl hf => ?_⟩
  obtain ⟨fs, rfl, p⟩ := hf
  refine wS_seq (wS_ifF ?_)
  repeat fail
  refine wE_isC ?_
  repeat fail
  refine ⟨fs, rfl, G.cS, _, rfl, rfl, ?_⟩
  repeat fail
  exact p
def strF (al : Str → Str) (p : Str) : D := .str (al p)
/-- an allotment of the stock's things -/
structure AlOk (ps ts : List Str) (al : Str → Str) : Prop where
  perm : (ps.map al).Perm ts
def Fis_allotment (C : Addr) : FF := fun ss O P => ∃ (ps ts ys ks : List Str) (rw : Str → List Str) (al : Str → Str), ss = [.d (stockD C ps ts ys rw), .d (.dct (funD (strF al) ks))] ∧ StockOk ps ts ys rw ∧ AlOk ps ts al ∧ ks.Perm ps ∧ P (.d (.bl true)) O
abbrev s_is_allotment : Stmt := topS 23
theorem sc_is_allotment : FnScope ["stock", "thing", "one"] ["stock", "thing"] (defScope s_is_allotment) := ⟨rfl, rfl, rfl, by decide +kernel, rfl, by decide +kernel, by decide +kernel⟩
theorem ok_is_allotment {f : Addr} {fd : FuncData} (Dd : Df K mg "is_allotment" "is_allotment" s_is_allotment f fd ["stock", "thing"]) (B : BT mg) (G : GT K mg C I W t1 t2) :
    Fn P w K mg base 1 "is_allotment" f fd ["stock", "thing"] (spA K 2 (Fis_allotment C)) := by
  refine Dd.mk' (Dd.fn.ok sc_is_allotment (fun vs H Q E h => spA_len h) (fun cdv A outer s H vs Q E hr h => ?_))
  have hu := hu_of hr
  have hu64 := hr.units
  refine ⟨_, (pss_cons (ps_if (PW.pt (pw_or (pt_not (pt_val (pe_callB (isiK K) (by rfl) B.isinstance (by decide +kernel) (pa_cons (pv 1) (pa_cons (bty "dict" (by rfl) B.dict (by decide +kernel)) pa_nil))))) (pw_or1 (pt_not (pt_val (pe_callB (allK K rfl) (by rfl) B.all (by decide +kernel) (pa_cons (pe_lc (own := [("one", 2)]) rfl sc_is_allotment.nd (pi_keys (pv 1)) (blkOk_by (by first | decide +kernel | rfl)) (fun _ _ _ _ _ => (pg_name (i := 2) sc_is_allotment.nd rfl (by first | exact Or.inl rfl | exact Or.inr rfl))) (fun _ _ _ _ _ => pts_nil) (fun _ _ _ _ _ => (pe_and (pe_callB (isiK K) (by rfl) B.isinstance (by decide +kernel) (pa_cons (pv 2) (pa_cons (bty "str" (by rfl) B.str (by decide +kernel)) pa_nil))) (pe_one (pe_cmp (pc_din hu (pv 2) (fldK K (pv 0) rfl))))))) pa_nil))))))) (pss_one (ps_ret pe_bl)) pss_nil)
  (pss_cons (ps_if (PW.pt (pw_or (pt_cmpR op_ne (pe_callB call_lenR (by rfl) B.len (by decide +kernel) (pa_cons (pv 1) pa_nil)) (pe_callB (lenSeqK K) (by rfl) B.len (by decide +kernel) (pa_cons (fldK K (pv 0) rfl) pa_nil)) (nomark _)) (pw_or1 (pt_not (pt_val (pe_callB (allK K rfl) (by rfl) B.all (by decide +kernel) (pa_cons (pe_lc (own := [("one", 2)]) rfl sc_is_allotment.nd (pi_values (pv 1)) (blkOk_by (by first | decide +kernel | rfl)) (fun _ _ _ _ _ => (pg_name (i := 2) sc_is_allotment.nd rfl (by first | exact Or.inl rfl | exact Or.inr rfl))) (fun _ _ _ _ _ => pts_nil) (fun _ _ _ _ _ => (pe_callB (isiK K) (by rfl) B.isinstance (by decide +kernel) (pa_cons (pv 2) (pa_cons (bty "str" (by rfl) B.str (by decide +kernel)) pa_nil))))) pa_nil))))))) (pss_one (ps_ret pe_bl)) pss_nil)
  (pss_one (ps_ret (pe_cmpR (eqDK K hu64) (pe_sortedVals rfl (pv 1) (by rfl) B.sorted) (pe_callB (sortedSK K) (by rfl) B.sorted (by decide +kernel) (pa_cons (fldK K (pv 0) rfl) pa_nil)) (nomark _)))))), wS_body h fun ss O P hl hf => ?_⟩
  obtain ⟨ps, ts, ys, ks, rw, al, rfl, st, ha, hk, p⟩ := hf
  have hkl : ks.length ≤ 20 := by rw [hk.length_eq]; exact st.ps.few
  refine wS_seq (wS_ifF (wT_orF ?_))
  repeat fail
  refine ⟨_, _, true, rfl, rfl, by decide, _, rfl, rfl, ?_⟩
  repeat fail
  refine wE_allS (tgk_name (by decide)) (wI_keys ?_)
  repeat fail
  refine ⟨_, rfl, ks, fun _ => true, keysD_funD _ _, by omega, fun _ _ => trivial, fun z hz acc a => ?_, _, rfl, by simp, ?_⟩
  · repeat fail
    refine wE_andT ?_
    repeat fail
    refine ⟨_, _, true, rfl, rfl, by decide, rfl, ?_⟩
    repeat fail
    refine ⟨C, _, _, .obj _ _, G.cS.cl, G.nR, stock_rows ps ts ys rw, ?_⟩
    refine ⟨_, z, .dct _, rfl, rfl, ?_⟩
    rw [lookD_some, decide_eq_true (st.ys.mem_iff.mpr (hk.mem_iff.mp hz))]
  · fail
    refine wS_seq (wS_ifF (wT_orF ?_))
    repeat fail
    refine a_lenD (.dct _) ?_
    repeat fail
    refine ⟨C, _, _, .obj _ _, G.cS.cl, G.nP, stock_people ps ts ys rw, ?_⟩
    repeat fail
    refine a_lenSeq (.lst _) (a_neInt ⟨_, rfl, ?_, ?_⟩)
    · rw [funD_len, List.length_map, hk.length_eq]
      simp
    repeat fail
    refine wE_allS (tgk_name (by decide)) (wI_vals ?_)
    repeat fail
    refine ⟨_, rfl, ks.map al, fun _ => true, by simp [valsD, funD, strF], by rw [List.length_map]; omega, fun _ _ => trivial, fun z hz acc a => ?_, _, rfl, by rw [List.all_eq_true.mpr fun _ _ => rfl]; rfl, ?_⟩
    · repeat fail
      exact ⟨_, _, true, rfl, rfl, by decide, rfl, rfl⟩
    · repeat fail
      refine wE_sortedVals ?_
      repeat fail
      refine ⟨_, ks.map al, .dct _, by simp [funD, strF], by rw [List.length_map]; omega, fun as has hso => ?_⟩
      refine wE_cb ?_
      repeat fail
      refine ⟨C, _, _, .obj _ _, G.cS.cl, G.nT, stock_things ps ts ys rw, ?_⟩
      repeat fail
      refine a_sorted (.lst _) (Nat.lt_of_le_of_lt st.ts.few (by decide)) fun bs hbs hsb => ?_
      have pm : as.Perm bs := has.trans (((hk.map al).trans ha.perm).trans hbs.symm)
      have e := sorted_unique pm hso hsb
      subst e
      refine a_eqStrs (.lst _) (.lst _) (fun z hz => (st.ts.ok z (hbs.mem_iff.mp hz)).ok) (fun z hz => (st.ts.ok z (hbs.mem_iff.mp hz)).ok) ?_
      simpa using p
def Fchecked_allotment (C : Addr) : FF := fun ss O P => ∃ (ps ts ys ks : List Str) (rw : Str → List Str) (al : Str → Str), ss = [.d (stockD C ps ts ys rw), .d (.dct (funD (strF al) ks))] ∧ StockOk ps ts ys rw ∧ AlOk ps ts al ∧ ks.Perm ps ∧ P (.d (.dct (funD (strF al) ys))) O
abbrev s_checked_allotment : Stmt := topS 24
theorem sc_checked_allotment : FnScope ["stock", "allotment", "person"] ["stock", "allotment"] (defScope s_checked_allotment) := ⟨rfl, rfl, rfl, by decide +kernel, rfl, by decide +kernel, by decide +kernel⟩
theorem ok_checked_allotment {f f1 : Addr} {fd fd1 : FuncData} (Dd : Df K mg "checked_allotment" "checked_allotment" s_checked_allotment f fd ["stock", "allotment"]) (B : BT mg) (G : GT K mg C I W t1 t2) (F_is_allotment : Fn P w K mg base 1 "is_allotment" f1 fd1 ["stock", "thing"] (spA K 2 (Fis_allotment C))) :
    Fn P w K mg base 2 "checked_allotment" f fd ["stock", "allotment"] (spA K 2 (Fchecked_allotment C)) := by
  refine Dd.mk' (Dd.fn.ok sc_checked_allotment (fun vs H Q E h => spA_len h) (fun cdv A outer s H vs Q E hr h => ?_))
  have hu := hu_of hr
  refine ⟨_, (pss_cons (ps_if (pt_not (pt_val (pe_fn F_is_allotment (hr.mono (by decide)) (by rfl) (pa_cons (pv 0) (pa_cons (pv 1) pa_nil))))) (pss_one ps_never) pss_nil)
  (pss_one (ps_ret (pe_frz (pe_dc (own := [("person", 2)]) rfl sc_checked_allotment.nd (pi_keys (fldK K (pv 0) rfl)) (blkOk_by (by first | decide +kernel | rfl)) (fun _ _ _ _ _ => (pg_name (i := 2) sc_checked_allotment.nd rfl (by first | exact Or.inl rfl | exact Or.inr rfl))) (fun _ _ _ _ _ => pts_nil) (fun _ _ _ _ _ => (pv 2)) (fun _ _ _ _ _ => (pe_dget hu (pv 1) (pv 2) (fun _ _ => rfl)))))))), wS_body h fun ss O P hl hf => ?_⟩
  obtain ⟨ps, ts, ys, ks, rw, al, rfl, st, ha, hk, p⟩ := hf
  have hyl : ys.length ≤ 20 := by rw [st.ys.length_eq]; exact st.ps.few
  refine wS_seq (wS_ifF ?_)
  repeat fail
  refine ⟨rfl, ps, ts, ys, ks, rw, al, rfl, st, ha, hk, _, rfl, rfl, ?_⟩
  repeat fail
  refine wE_dcS (tgk_name (by decide)) (wI_keys ?_)
  repeat fail
  refine ⟨C, _, _, .obj _ _, G.cS.cl, G.nR, stock_rows ps ts ys rw, ?_⟩
  refine ⟨_, rfl, ys, fun z => some (z, strF al z), keysD_funD _ _, by omega, fun _ _ => trivial, fun z hz acc a => ?_, fun b => ⟨99, b, _, rfl, rfl, ?_⟩⟩
  · repeat fail
    refine ⟨fun _ => ?_, fun q => by cases q⟩
    repeat fail
    exact ⟨_, z, _, .dct _, rfl, lookD_in (hk.mem_iff.mpr (st.ys.mem_iff.mp hz)), rfl, _, _, rfl, rfl, rfl⟩
  · rw [filterMap_funD (strF al), putAll_funD (st.ys.nodup_iff.mpr st.ps.nd)]
    exact p
end
end Y

/-! k61: who wants whom; orders and rings. No program here. -/
namespace Y
open PySem PySem.Spec PyProof.Rows L2
/-- the first place of t -/
def ix : List Str → Str → Nat
  | [], _ => 0
  | x :: r, t => if x = t then 0 else ix r t + 1
theorem ix_at : ∀ {row : List Str} {t : Str}, t ∈ row → row[ix row t]? = some t
  | x :: r, t, h => by
    unfold ix
    by_cases e : x = t
    · rw [if_pos e]; simp [e]
    · rw [if_neg e]
      rcases List.mem_cons.mp h with z | z
      · exact absurd z.symm e
      · simpa using ix_at z
theorem ix_first : ∀ {row : List Str} {t : Str} {m : Nat}, m < ix row t → row[m]? ≠ some t
  | [], t, m, h => by simp [ix] at h
  | x :: r, t, m, h => by
    unfold ix at h
    by_cases e : x = t
    · rw [if_pos e] at h; omega
    · rw [if_neg e] at h
      cases m with
      | zero => simpa using e
      | succ m => simpa using ix_first (row := r) (by omega)
theorem ix_lt {row : List Str} {t : Str} (h : t ∈ row) : ix row t < row.length := (List.getElem?_eq_some_iff.mp (ix_at h)).1
theorem ix_eq {row : List Str} {t : Str} {j : Nat} (nd : row.Nodup) (h : row[j]? = some t) : ix row t = j := nodup_ix nd (ix_at (List.mem_of_getElem? h)) h
theorem mem_take_ix' {row : List Str} {t u : Str} (nd : row.Nodup) (hu : u ∈ row) : u ∈ row.take (ix row t) ↔ ix row u < ix row t := by
  constructor
  · intro h
    obtain ⟨j, hj, e⟩ := mem_take_ix h
    rw [ix_eq nd e]; exact hj
  · intro h
    have e : (row.take (ix row t))[ix row u]? = some u := by
      rw [List.getElem?_take, if_pos h]; exact ix_at hu
    exact List.mem_of_getElem? e
/-- who holds t -/
def hold (ys : List Str) (al : Str → Str) (t : Str) : Str := (ys.find? fun p => decide (al p = t)).getD ⟨#[]⟩
theorem hold_al {ys : List Str} {al : Str → Str} (nd : (ys.map al).Nodup) {p : Str} (h : p ∈ ys) : hold ys al (al p) = p := by
  unfold hold
  cases e : ys.find? fun q => decide (al q = al p) with
  | none =>
    have := List.find?_eq_none.mp e p h
    simp at this
  | some q =>
    have h1 : al q = al p := by simpa using List.find?_some e
    have h2 := List.mem_of_find?_eq_some e
    show q = p
    obtain ⟨i, hi, e1⟩ := List.getElem_of_mem h2
    obtain ⟨j, hj, e2⟩ := List.getElem_of_mem h
    have a1 : (ys.map al)[i]? = some (al p) := by rw [List.getElem?_map, List.getElem?_eq_getElem hi, e1, ← h1]; rfl
    have a2 : (ys.map al)[j]? = some (al p) := by rw [List.getElem?_map, List.getElem?_eq_getElem hj, e2]; rfl
    have := nodup_ix nd a1 a2
    subst this
    rw [← e1, e2]
theorem al_inj {ys : List Str} {al : Str → Str} (nd : (ys.map al).Nodup) {p q : Str} (hp : p ∈ ys) (hq : q ∈ ys) (e : al p = al q) : p = q := by
  rw [← hold_al nd hp, e, hold_al nd hq]
/-- a market with an allotment -/
structure Mkt (ys : List Str) (al : Str → Str) (rw : Str → List Str) : Prop where
  nd : ys.Nodup
  ndal : (ys.map al).Nodup
  few : ys.length ≤ 20
  ok : ∀ p ∈ ys, PyData.strOk p = true
  rnd : ∀ p ∈ ys, (rw p).Nodup
  rmem : ∀ p ∈ ys, ∀ q ∈ ys, al q ∈ rw p
  rsub : ∀ p ∈ ys, ∀ t ∈ rw p, t ∈ ys.map al
/-- whom p wants -/
def ws (ys : List Str) (al : Str → Str) (rw : Str → List Str) (p : Str) : List Str := ((rw p).take (ix (rw p) (al p))).map (hold ys al)
theorem ws_mem {ys : List Str} {al : Str → Str} {rw' : Str → List Str} (m : Mkt ys al rw') {p q : Str} (hp : p ∈ ys) : q ∈ ws ys al rw' p ↔ q ∈ ys ∧ ix (rw' p) (al q) < ix (rw' p) (al p) := by
  unfold ws
  rw [List.mem_map]
  constructor
  · rintro ⟨t, ht, rfl⟩
    have htr : t ∈ rw' p := List.mem_of_mem_take ht
    obtain ⟨u, hu, rfl⟩ := List.mem_map.mp (m.rsub p hp t htr)
    rw [hold_al m.ndal hu]
    exact ⟨hu, (mem_take_ix' (m.rnd p hp) htr).mp ht⟩
  · rintro ⟨hq, hlt⟩
    exact ⟨al q, (mem_take_ix' (m.rnd p hp) (m.rmem p hp q hq)).mpr hlt, hold_al m.ndal hq⟩
theorem nodup_map_inj {α β : Type} {f : α → β} : ∀ {xs : List α}, xs.Nodup → (∀ a ∈ xs, ∀ b ∈ xs, f a = f b → a = b) → (xs.map f).Nodup
  | [], _, _ => List.nodup_nil
  | x :: xs, nd, h => by
    rw [List.nodup_cons] at nd
    rw [List.map_cons, List.nodup_cons]
    refine ⟨fun hm => ?_, nodup_map_inj nd.2 fun a ha b hb => h a (List.mem_cons_of_mem _ ha) b (List.mem_cons_of_mem _ hb)⟩
    obtain ⟨y, hy, e⟩ := List.mem_map.mp hm
    have := h y (List.mem_cons_of_mem _ hy) x List.mem_cons_self e
    rw [this] at hy
    exact nd.1 hy
theorem ws_nodup {ys : List Str} {al : Str → Str} {rw' : Str → List Str} (m : Mkt ys al rw') {p : Str} (hp : p ∈ ys) : (ws ys al rw' p).Nodup := by
  have nd := (List.take_sublist (ix (rw' p) (al p)) (rw' p)).nodup (m.rnd p hp)
  refine nodup_map_inj nd fun a ha b hb e => ?_
  have ha' := m.rsub p hp a (List.mem_of_mem_take ha)
  have hb' := m.rsub p hp b (List.mem_of_mem_take hb)
  obtain ⟨u, hu, rfl⟩ := List.mem_map.mp ha'
  obtain ⟨v, hv, rfl⟩ := List.mem_map.mp hb'
  rw [hold_al m.ndal hu, hold_al m.ndal hv] at e
  rw [e]
theorem ws_few {ys : List Str} {al : Str → Str} {rw' : Str → List Str} (m : Mkt ys al rw') {p : Str} (hp : p ∈ ys) : (ws ys al rw' p).length ≤ 20 := by
  have h1 : (rw' p).length ≤ ys.length := by
    have := List.Nodup.length_le_of_subset (m.rnd p hp) (fun t ht => m.rsub p hp t ht)
    simpa using this
  unfold ws
  rw [List.length_map, List.length_take]
  have := m.few
  omega
theorem ws_self {ys : List Str} {al : Str → Str} {rw' : Str → List Str} (m : Mkt ys al rw') {p : Str} (hp : p ∈ ys) : p ∉ ws ys al rw' p := fun h => by
  have := ((ws_mem m hp).mp h).2
  omega

/-! ### orders and rings -/
/-- an order in which each finds those that they want gone before -/
structure Good (W : Str → List Str) (ys ord : List Str) : Prop where
  perm : ord.Perm ys
  before : ∀ (i : Nat) (p : Str), ord[i]? = some p → ∀ q ∈ W p, q ∈ ord.take i
/-- some of whom each wants another of them -/
structure Bad (W : Str → List Str) (ys left : List Str) : Prop where
  ne : left ≠ []
  sub : ∀ p ∈ left, p ∈ ys
  wants : ∀ p ∈ left, ∃ q ∈ W p, q ∈ left
  nd : left.Nodup
theorem good_not_bad {W : Str → List Str} {ys ord left : List Str} (g : Good W ys ord) (b : Bad W ys left) : False := by
  have key : ∀ (i : Nat) (p : Str), ord[i]? = some p → p ∉ left := by
    intro i
    induction i using Nat.strongRecOn with
    | ind i ih =>
      intro p hp hl
      obtain ⟨q, hq, hql⟩ := b.wants p hl
      obtain ⟨j, hj, e⟩ := mem_take_ix (g.before i p hp q hq)
      exact ih j hj q e hql
  obtain ⟨p, hp⟩ := List.exists_mem_of_ne_nil _ b.ne
  have hpo : p ∈ ord := g.perm.mem_iff.mpr (b.sub p hp)
  obtain ⟨i, hi, e⟩ := List.getElem_of_mem hpo
  exact key i p (by rw [← e]; exact List.getElem?_eq_getElem hi) hp
/-- the ring's neighbours -/
def nbrs (r : List Str) : List (Str × Str) := r.zip (r.drop 1 ++ r.take 1)
structure Ring (W : Str → List Str) (ys r : List Str) : Prop where
  two : 2 ≤ r.length
  nd : r.Nodup
  sub : ∀ p ∈ r, p ∈ ys
  wants : ∀ e ∈ nbrs r, e.2 ∈ W e.1
theorem erase_perm {α : Type} : ∀ {xs : List α} {i : Nat} {a : α}, xs[i]? = some a → xs.Perm (a :: xs.eraseIdx i)
  | [], i, a, h => by simp at h
  | x :: xs, 0, a, h => by simp at h; subst h; exact List.Perm.refl _
  | x :: xs, i + 1, a, h => by
    have ih := erase_perm (xs := xs) (i := i) (a := a) (by simpa using h)
    exact (ih.cons x).trans (List.Perm.swap a x _)
end Y

/-! k61: who wants whom; orders; rings. -/
namespace Y
open PySem PySem.Spec PyProof.Rows L2
local macro_rules | `(tactic| fail) => `(tactic| ((first
  | with_reducible refine wS_seq ?_
  | with_reducible refine wS_ret ?_
  | with_reducible refine wS_set ?_
  | with_reducible refine wS_asgTup ?_
  | with_reducible refine wS_asg ?_
  | with_reducible refine wS_par ?_
  | with_reducible refine wS_drop ?_
  | with_reducible refine wS_dput ?_
  | with_reducible refine wS_fld ?_
  | with_reducible refine wS_next ?_
  | with_reducible refine wS_nextE ?_
  | with_reducible refine wS_brkE ?_
  | with_reducible refine wS_brk ?_
  | with_reducible refine wT_B ?_
  | with_reducible refine wT_Test ?_
  | with_reducible refine wT_not ?_
  | with_reducible refine wT_yes ?_
  | (with_reducible refine wE_var' ?_; refine ⟨_, rfl, ?_⟩)
  | with_reducible refine wE_int ?_
  | with_reducible refine wE_bl ?_
  | with_reducible refine wE_str ?_
  | with_reducible refine wE_non ?_
  | with_reducible refine wE_op ?_
  | with_reducible refine wE_un ?_
  | with_reducible refine wE_isi ?_
  | with_reducible refine wE_cbLen ?_
  | with_reducible refine wE_cbLenS ?_
  | with_reducible refine wE_cbLenD ?_
  | with_reducible refine wE_cbListOf ?_
  | with_reducible refine wE_cbTup ?_
  | with_reducible refine wE_isN ?_
  | with_reducible refine wE_notN ?_
  | with_reducible refine a_neg ?_
  | with_reducible refine wA_nil ?_
  | with_reducible refine wA_cons ?_
  | with_reducible refine wA_star ?_
  | with_reducible refine wE_sl ?_
  | with_reducible refine wO_none ?_
  | with_reducible refine wO_some ?_
  | with_reducible refine wE_notV ?_
  | with_reducible refine wE_dget ?_
  | with_reducible refine wE_din ?_
  | with_reducible refine wE_dnotin ?_
  | with_reducible refine wE_fld ?_
  | with_reducible refine wE_frz ?_
  | with_reducible refine wE_bmL ?_
  | with_reducible refine wE_call ?_
  | with_reducible refine wG_name ?_
  | with_reducible refine wG_tup rfl ?_
  | with_reducible refine wGs_consM ?_
  | with_reducible refine wGs_nilM ?_
  | with_reducible refine wGs_nil ?_
  | with_reducible refine wGs_cons ?_) <;> (try dsimp only)))

section
variable {P : Program} {w : World} {K : PySem.W.Frag} {mg : Str → Option Value} {base : Heap} {C I W : Addr} {t1 t2 : Tok}
def wF (W : Str → List Str) (p : Str) : D := setD (W p)
def holdL (ys : List Str) (al : Str → Str) : List (Str × D) := ys.map fun p => (al p, D.str p)
theorem holdL_keys (ys : List Str) (al : Str → Str) : (holdL ys al).map (·.1) = ys.map al := by simp [holdL, Function.comp_def]
theorem holdL_look {ys : List Str} {al : Str → Str} (nd : (ys.map al).Nodup) {p : Str} (h : p ∈ ys) : lookD (holdL ys al) (al p) = some (.str p) := by
  induction ys with
  | nil => simp at h
  | cons y r ih =>
    show (if al y = al p then some (D.str y) else lookD (holdL r al) (al p)) = _
    rw [List.map_cons, List.nodup_cons] at nd
    by_cases e : al y = al p
    · rw [if_pos e]
      rcases List.mem_cons.mp h with rfl | h
      · rfl
      · exact absurd (List.mem_map.mpr ⟨p, h, e.symm⟩) nd.1
    · rw [if_neg e]
      rcases List.mem_cons.mp h with rfl | h
      · exact absurd rfl e
      · exact ih nd.2 h
def Fwanted_in : FF := fun ss O P => ∃ (ys : List Str) (al : Str → Str) (rw : Str → List Str), ss = [.d (.dct (funD (rtS rw) ys)), .d (.dct (funD (strF al) ys))] ∧ Mkt ys al rw ∧ P (.d (.dct (funD (wF (ws ys al rw)) ys))) O
abbrev s_wanted_in : Stmt := topS 26
theorem sc_wanted_in : FnScope ["rows", "allotment", "holder", "person", "thing", "found", "row"] ["rows", "allotment"] (defScope s_wanted_in) := ⟨rfl, rfl, rfl, by decide +kernel, rfl, by decide +kernel, by decide +kernel⟩
theorem ok_wanted_in {f : Addr} {fd : FuncData} (Dd : Df K mg "wanted_in" "wanted_in" s_wanted_in f fd ["rows", "allotment"]) (B : BT mg) :
    Fn P w K mg base 1 "wanted_in" f fd ["rows", "allotment"] (spA K 2 Fwanted_in) := by
  refine Dd.mk' (Dd.fn.ok sc_wanted_in (fun vs H Q E h => spA_len h) (fun cdv A outer s H vs Q E hr h => ?_))
  have hu := hu_of hr
  refine ⟨_, (pss_cons (ps_set (i := 2) sc_wanted_in.nd rfl (Or.inr rfl) (pe_frz (pe_dc (own := [("person", 3), ("thing", 4)]) rfl sc_wanted_in.nd (pi_items (pv 1)) (blkOk_by (by first | decide +kernel | rfl)) (fun _ _ _ _ _ => (tupK K 2 rfl (pgs_cons (pg_name (i := 3) sc_wanted_in.nd rfl (by first | exact Or.inl rfl | exact Or.inr rfl)) (pgs_cons (pg_name (i := 4) sc_wanted_in.nd rfl (by first | exact Or.inl rfl | exact Or.inr rfl)) pgs_nil)))) (fun _ _ _ _ _ => pts_nil) (fun _ _ _ _ _ => (pv 4)) (fun _ _ _ _ _ => (pv 3)))))
  (pss_cons (ps_set (i := 5) sc_wanted_in.nd rfl (Or.inl rfl) pe_dnewK)
  (pss_cons (ps_for PassesOwn.never rfl (pi_keys (pv 1)) (pg_name (i := 3) sc_wanted_in.nd rfl (Or.inl rfl))
  (pss_cons (ps_set (i := 6) sc_wanted_in.nd rfl (Or.inl rfl) (pe_dget hu (pv 0) (pv 3) (fun _ _ => rfl)))
  (pss_one (ps_dput hu (pv 5) (pv 3) (pe_frz (pe_dc (own := [("thing", 4)]) rfl sc_wanted_in.nd (seqK K (pe_slice (slTK K) (pv 6) po_none (po_some (pe_mG ty_tupR PySem.F.plainAttrs_tuple PySem.F.slot_tuple_index PySem.F.type_tuple_index (tixK K) (pv 6) (pa_cons (pe_dget hu (pv 1) (pv 3) (fun _ _ => rfl)) pa_nil))))) (blkOk_by (by first | decide +kernel | rfl)) (fun _ _ _ _ _ => (pg_name (i := 4) sc_wanted_in.nd rfl (by first | exact Or.inl rfl | exact Or.inr rfl))) (fun _ _ _ _ _ => pts_nil) (fun _ _ _ _ _ => (pe_dget hu (pv 2) (pv 4) (fun _ _ => rfl))) (fun _ _ _ _ _ => pe_bl))) rfl))))
  (pss_one (ps_frz (i := 5) (ps_ret (pv 5))))))), wS_body h fun ss O P hl hf => ?_⟩
  obtain ⟨ys, al, rw', rfl, m, p⟩ := hf
  have hyl := m.few
  repeat fail
  refine wE_dcI (tgk_tup (tgk_consN (by decide) (tgk_consN (by decide) tgk_nil))) (wI_items ?_)
  repeat fail
  refine ⟨_, rfl, funD (strF al) ys, fun k d => match d with | .str t => some (t, .str k) | _ => none, rfl, by rw [funD_len]; omega, fun _ _ => trivial, fun x d hx acc a => ?_, fun b => ⟨99, b, _, rfl, rfl, ?_⟩⟩
  · obtain ⟨y, hy, e⟩ := List.mem_map.mp hx
    cases e
    repeat fail
    refine ⟨fun _ => ?_, fun q => by cases q⟩
    repeat fail
    exact ⟨rfl, _, _, rfl, rfl, rfl⟩
  have eh : putAll [] ((funD (strF al) ys).filterMap fun p => (fun (k : Str) (d : D) => match d with | .str t => some (t, D.str k) | _ => none) p.1 p.2) = holdL ys al := by
    have e1 : ((funD (strF al) ys).filterMap fun p => (fun (k : Str) (d : D) => match d with | .str t => some (t, D.str k) | _ => none) p.1 p.2) = holdL ys al := by
      unfold funD holdL
      rw [List.filterMap_map]
      exact filterMap_some (fun p => (al p, D.str p)) ys
    rw [e1, putAll_nodup (by rw [holdL_keys]; exact m.ndal)]
  rw [eh]
  repeat fail
  refine wE_dnewOwn 1 fun c => ?_
  repeat fail
  refine wS_for (wI_keys ?_)
  repeat fail
  refine ⟨_, rfl, fun i Γ' O' => ∃ x3 x6, Γ' = [some (.d (.dct (funD (rtS rw') ys))), some (.d (.dct (funD (strF al) ys))), some (.d (.dct (holdL ys al))), x3, none, some (.p 1 c), x6] ∧ O' = (1, c, .ok (funD (wF (ws ys al rw')) (ys.take i))) :: O, ⟨none, none, rfl, rfl⟩, fun _ _ _ _ => trivial, ?_, ?_⟩
  · rintro i d Γ' O' hd ⟨x3, x6, rfl, rfl⟩
    rw [keysD_funD] at hd
    obtain ⟨z, hz, hzi, rfl⟩ := mem_of_strs hd
    have hmem := m.rmem z hz z hz
    repeat fail
    refine ⟨_, z, _, .dct _, rfl, lookD_in hz, ?_⟩
    repeat fail
    refine wE_dcS (tgk_name (by decide)) (wI_seq ?_)
    repeat fail
    refine wE_tix ?_
    repeat fail
    refine ⟨rw' z, rfl, ?_⟩
    repeat fail
    refine ⟨_, z, _, .dct _, rfl, lookD_in hz, ?_⟩
    repeat fail
    refine ⟨al z, ix (rw' z) (al z), rfl, ix_at hmem, fun _ hm => ix_first hm, _, rfl, ?_⟩
    refine a_slT (.rt _) fun y ty => ?_
    rw [cutD_to, ← List.map_take] at ty
    refine ⟨_, ty.seq, (rw' z).take (ix (rw' z) (al z)), fun t => some (hold ys al t, .bl true), rfl, ?_, fun acc a => ty.seq, fun t ht acc a => ?_, fun b => ⟨99, b, _, rfl, rfl, ?_⟩⟩
    · have := ws_few m hz
      unfold ws at this
      rw [List.length_map] at this
      omega
    · obtain ⟨u, hu, rfl⟩ := List.mem_map.mp (m.rsub z hz t (List.mem_of_mem_take ht))
      repeat fail
      refine ⟨fun _ => ?_, fun q => by cases q⟩
      repeat fail
      refine ⟨_, al u, _, .dct _, rfl, holdL_look m.ndal hu, ?_⟩
      repeat fail
      exact ⟨rfl, u, _, rfl, rfl, by rw [hold_al m.ndal hu]⟩
    · repeat fail
      refine ⟨_, 1, c, _, z, rfl, rfl, rfl, rfl, ?_, _, _, rfl, ?_⟩
      · rw [funD_len, List.length_take]; omega
      · have e1 : putAll [] (((rw' z).take (ix (rw' z) (al z))).filterMap fun t => some (hold ys al t, D.bl true)) = funD (fun _ => .bl true) (ws ys al rw' z) := by
          have e2 : (((rw' z).take (ix (rw' z) (al z))).filterMap fun t => some (hold ys al t, D.bl true)) = funD (fun _ => .bl true) (ws ys al rw' z) := by
            rw [filterMap_some]; unfold ws funD; rw [List.map_map]; rfl
          rw [e2, putAll_funD (ws_nodup m hz)]
        rw [e1]
        show (1, c, OD.ok (putD (funD (wF (ws ys al rw')) (ys.take i)) z (wF (ws ys al rw') z))) :: O = _
        rw [putD_funD (f := wF (ws ys al rw')) (not_mem_take m.nd hzi), take_next hzi]
  · rintro Γ' O' ⟨x3, x6, rfl, rfl⟩
    rw [keysD_funD, List.length_map, List.take_length]
    refine wS_frz (l := 1) (a := c) rfl rfl ?_
    repeat fail
    exact p
theorem filterMap_pred {α : Type} (b : Str → Bool) (f : Str → α) (xs : List Str) : (xs.filterMap fun x => if b x = true then some (f x) else none) = (xs.filter b).map f := by
  induction xs with
  | nil => rfl
  | cons x xs ih =>
    rw [List.filterMap_cons, List.filter_cons]
    by_cases h : b x = true
    · rw [if_pos h, if_pos h]; simp [ih]
    · rw [if_neg h, if_neg h]; simp [ih]
theorem atI_zero {α : Type} {x : α} {xs : List α} : atI (x :: xs) 0 = some x := atI_nat (j := 0) rfl
/-- wants among people -/
structure Wok (W : Str → List Str) (ys : List Str) : Prop where
  nd : ys.Nodup
  few : ys.length ≤ 20
  ok : ∀ p ∈ ys, PyData.strOk p = true
  sub : ∀ p ∈ ys, ∀ q ∈ W p, q ∈ ys
  wfew : ∀ p ∈ ys, (W p).length ≤ 20
def Forder_keeping : FF := fun ss O P => ∃ (ys : List Str) (W : Str → List Str), ss = [.d (.dct (funD (wF W) ys))] ∧ Wok W ys ∧ (∀ ord, Good W ys ord → P (.d (.tup [.lst (sD ord), .lst []])) O) ∧ (∀ left, Bad W ys left → P (.d (.tup [.non, .lst (sD left)])) O)
structure KInv (W : Str → List Str) (ys found left : List Str) : Prop where
  perm : (found ++ left).Perm ys
  before : ∀ (i : Nat) (p : Str), found[i]? = some p → ∀ q ∈ W p, q ∈ found.take i
abbrev s_order_keeping : Stmt := topS 28
theorem sc_order_keeping : FnScope ["wanted", "found", "left", "free", "person", "other"] ["wanted"] (defScope s_order_keeping) := ⟨rfl, rfl, rfl, by decide +kernel, rfl, by decide +kernel, by decide +kernel⟩
theorem ok_order_keeping {f : Addr} {fd : FuncData} (Dd : Df K mg "order_keeping" "order_keeping" s_order_keeping f fd ["wanted"]) (B : BT mg) :
    Fn P w K mg base 1 "order_keeping" f fd ["wanted"] (spA K 1 Forder_keeping) := by
  refine Dd.mk' (Dd.fn.ok sc_order_keeping (fun vs H Q E h => spA_len h) (fun cdv A outer s H vs Q E hr h => ?_))
  have hu := hu_of hr
  have hu64 := hr.units
  refine ⟨_, (pss_cons (ps_asg (pe_tup (pa_cons (pe_lst pa_nil) (pa_cons (pe_callB (call_sortedD rfl) (by rfl) B.sorted (by decide +kernel) (pa_cons (pv 0) pa_nil)) pa_nil))) (tupK K 2 rfl (pgs_cons (pg_name (i := 1) sc_order_keeping.nd rfl (Or.inr rfl)) (pgs_cons (pg_name (i := 2) sc_order_keeping.nd rfl (Or.inl rfl)) pgs_nil))))
  (pss_cons (ps_while PassesOwn.never (pt_cmpR (neDK K hu64) (pv 2) (pe_lst pa_nil) (nomark _)) (pss_cons (ps_setLc (i := 3) (own := [("person", 4)]) rfl sc_order_keeping.nd rfl rfl (sw_true rfl rfl rfl (by decide +kernel)) (seqK K (pv 2)) (blkOk_by (by first | decide +kernel | rfl)) (fun _ _ _ _ _ => (pg_name (i := 4) sc_order_keeping.nd rfl (by first | exact Or.inl rfl | exact Or.inr rfl))) (fun _ _ _ _ _ => (pts_one (pt_val (pe_callB (allK K rfl) (by rfl) B.all (by decide +kernel) (pa_cons (pe_lc (own := [("other", 5)]) rfl sc_order_keeping.nd (pi_keys (pe_dget hu (pv 0) (pv 4) (fun _ _ => rfl))) (blkOk_by (by first | decide +kernel | rfl)) (fun _ _ _ _ _ => (pg_name (i := 5) sc_order_keeping.nd rfl (by first | exact Or.inl rfl | exact Or.inr rfl))) (fun _ _ _ _ _ => pts_nil) (fun _ _ _ _ _ => (pe_cmpR (inK K) (pv 5) (pv 1) (by rfl)))) pa_nil))))) (fun _ _ _ _ _ => (pv 4)))
  (pss_cons (ps_if (pt_cmpR (eqDK K hu64) (pv 3) (pe_lst pa_nil) (nomark _)) (pss_one (ps_ret (pe_tup (pa_cons pe_non (pa_cons (pv 2) pa_nil))))) pss_nil)
  (pss_cons (ps_expr (bmK K PySem.F.plainAttrs_list PySem.F.slot_list_append PySem.F.type_list_append mt_append (pv 1) (pa_cons (pe_ix (ixK K) (pv 3) pe_int (fun _ _ => rfl)) pa_nil)))
  (pss_one (ps_expr (bmK K PySem.F.plainAttrs_list PySem.F.slot_list_remove PySem.F.type_list_remove mt_removeS (pv 2) (pa_cons (pe_ix (ixK K) (pv 3) pe_int (fun _ _ => rfl)) pa_nil))))))))
  (pss_one (ps_ret (pe_tup (pa_cons (pv 1) (pa_cons (pe_lst pa_nil) pa_nil))))))), wS_body h fun ss O P hl hf => ?_⟩
  obtain ⟨ys, W', rfl, wk, pg, pb⟩ := hf
  have hyl := wk.few
  repeat fail
  refine wE_lstOwn 1 ?_
  repeat fail
  refine ⟨[], rfl, by decide, fun fa => ?_⟩
  repeat fail
  refine wE_cb ?_
  repeat fail
  refine a_sortedDOwn 2 (.dct _) (by rw [funD_len]; omega) fun ls la hls hso => ?_
  rw [funD_keys] at hls
  repeat fail
  refine ⟨rfl, by decide, ?_⟩
  repeat fail
  refine wS_while (fun m Γ' O' => ∃ found left x3, Γ' = [some (.d (.dct (funD (wF W') ys))), some (.p 1 fa), some (.p 2 la), x3, none, none] ∧ O' = (2, la, .ol (sD left)) :: (1, fa, .ol (sD found)) :: O ∧ m = left.length ∧ KInv W' ys found left) ⟨_, [], ls, none, rfl, rfl, rfl, by simpa using hls, fun i p hp => by simp at hp⟩ ?_
  rintro m Γ' O' ⟨found, left, x3, rfl, rfl, rfl, kv⟩
  have nfl : (found ++ left).Nodup := kv.perm.nodup_iff.mpr wk.nd
  have hll : left.length ≤ 20 := by
    have := kv.perm.length_eq
    rw [List.length_append] at this
    omega
  have lsub : ∀ p ∈ left, p ∈ ys := fun p hp => kv.perm.mem_iff.mp (List.mem_append_right _ hp)
  repeat fail
  refine wE_lst ?_
  repeat fail
  refine ⟨[], rfl, by decide, a_neStrs (xs := left) (ys := []) (.own rfl) (.lst _) (fun z hz => wk.ok z (lsub z hz)) (fun z hz => by simp at hz) ⟨_, rfl, fun hb => ?_, fun hb => ?_⟩⟩
  · repeat fail
    refine wE_lcS (tgk_name (by decide)) (wI_seq ?_)
    repeat fail
    refine ⟨_, .own rfl, left, fun p => if (W' p).all (fun q => decide (q ∈ found)) = true then some (.str p) else none, rfl, by omega, fun acc a => .own rfl, fun z hz acc a => ?_, ?_⟩
    · repeat fail
      refine wE_allS (tgk_name (by decide)) (wI_keys ?_)
      repeat fail
      refine ⟨_, z, _, .dct _, rfl, lookD_in (lsub z hz), _, rfl, W' z, fun q => decide (q ∈ found), keysD_funD _ _, ?_, fun _ _ => trivial, fun q hq acc2 a2 => ?_, _, rfl, fun hb => ?_, fun hb => ?_⟩
      · have := wk.wfew z (lsub z hz); omega
      · repeat fail
        exact a_inStrs (.own rfl) ⟨rfl, rfl⟩
      · repeat fail
        exact ⟨rfl, _, rfl, if_pos hb⟩
      · exact ⟨rfl, if_neg (by rw [hb]; decide)⟩
    · rw [filterMap_pred]
      repeat fail
      refine wS_if ?_
      repeat fail
      refine wE_lst ?_
      repeat fail
      generalize hfree : left.filter (fun p => (W' p).all fun q => decide (q ∈ found)) = free
      have fsub : ∀ z ∈ free, z ∈ left := fun z hz => by rw [← hfree] at hz; exact (List.mem_filter.mp hz).1
      refine ⟨[], rfl, by decide, a_eqStrs (xs := free) (ys := []) (.lst _) (.lst _) (fun z hz => wk.ok z (lsub z (fsub z hz))) (fun z hz => by simp at hz) ⟨_, rfl, fun hf => ?_, fun hf => ?_⟩⟩
      · have hf' : free = [] := by simpa using hf
        fail
        refine wE_forget 1 (wE_tup (wA_cons (wE_non (wA_cons (wE_pub ?_)))))
        repeat fail
        refine ⟨2, la, sD left, rfl, rfl, ?_⟩
        repeat fail
        refine ⟨[.non, .lst (sD left)], rfl, (by show 2 ≤ 1000; decide), pb left ⟨fun z => ?_, lsub, fun p hp => ?_, (List.nodup_append.mp nfl).2.1⟩⟩
        · rw [z] at hb; simp at hb
        · have hno : ¬ ((W' p).all fun q => decide (q ∈ found)) = true := fun hall => by
            have : p ∈ free := by rw [← hfree]; exact List.mem_filter.mpr ⟨hp, hall⟩
            rw [hf'] at this
            simp at this
          rw [List.all_eq_true] at hno
          have ⟨q, hq⟩ := Classical.not_forall.mp hno
          have ⟨hq1, hq2⟩ := Classical.not_imp.mp hq
          refine ⟨q, hq1, ?_⟩
          have := kv.perm.mem_iff.mpr (wk.sub p (lsub p hp) q hq1)
          rcases List.mem_append.mp this with z | z
          · exact absurd (decide_eq_true z) hq2
          · exact z
      · have hne : free ≠ [] := by simpa using hf
        cases free with
        | nil => exact absurd rfl hne
        | cons p0 fr =>
        have hp0 : p0 ∈ left := fsub p0 List.mem_cons_self
        have hall : ((W' p0).all fun q => decide (q ∈ found)) = true := by
          have : p0 ∈ left.filter (fun p => (W' p).all fun q => decide (q ∈ found)) := by rw [hfree]; exact List.mem_cons_self
          exact (List.mem_filter.mp this).2
        repeat fail
        refine ⟨_, .own rfl, ?_⟩
        repeat fail
        refine a_ix (.lst _) (i := 0) (d := .str p0) atI_zero ?_
        repeat fail
        have hfl : found.length ≤ 20 := by
          have := kv.perm.length_eq
          rw [List.length_append] at this
          omega
        refine a_append (l := 1) rfl (by rw [List.length_map]; omega) ?_
        repeat fail
        refine ⟨_, .own rfl, ?_⟩
        repeat fail
        refine a_ix (.lst _) (i := 0) (d := .str p0) atI_zero ?_
        repeat fail
        refine a_removeS (l := 2) (ns := left) (j := ix left p0) rfl (ix_at hp0) (fun _ hm => ix_first hm) ?_
        refine ⟨(left.eraseIdx (ix left p0)).length, ?_, found ++ [p0], left.eraseIdx (ix left p0), _, rfl, ?_, rfl, ?_, fun i p hp q hq => ?_⟩
        · rw [List.length_eraseIdx, if_pos (ix_lt hp0)]
          have := ix_lt hp0
          omega
        · show _ = (2, la, OD.ol _) :: (1, fa, OD.ol ((found ++ [p0]).map D.str)) :: O
          rw [List.map_append]
          rfl
        · have pe : left.Perm (p0 :: left.eraseIdx (ix left p0)) := erase_perm (ix_at hp0)
          refine List.Perm.trans ?_ kv.perm
          rw [List.append_assoc]
          exact pe.symm.append_left found
        · by_cases hi : i < found.length
          · rw [List.getElem?_append_left hi] at hp
            have := kv.before i p hp q hq
            rw [List.take_append_of_le_length (by omega)]
            exact this
          · rw [List.getElem?_append_right (by omega)] at hp
            have e0 : i = found.length := by
              have := (List.getElem?_eq_some_iff.mp hp).1
              simp at this
              omega
            subst e0
            simp at hp
            subst hp
            have := List.all_eq_true.mp hall q hq
            rw [List.take_append_of_le_length (Nat.le_refl _), List.take_length]
            simpa using this
  · have hb' : left = [] := by simpa using hb
    subst hb'
    fail
    refine wE_forget 2 (wE_tup (wA_cons (wE_pub ?_)))
    repeat fail
    refine ⟨1, fa, sD found, rfl, rfl, ?_⟩
    repeat fail
    refine wE_lst ?_
    repeat fail
    refine ⟨[], rfl, by decide, ?_⟩
    repeat fail
    exact ⟨[.lst (sD found), .lst []], rfl, (by show 2 ≤ 1000; decide), pg found ⟨by simpa using kv.perm, kv.before⟩⟩
end
end Y

/-! k61: more of orders and rings. No program here. -/
namespace Y
open PySem PySem.Spec PyProof.Rows L2
/-- the best thing left for the next in a good order is the own one -/
theorem first_left {ys ord : List Str} {al : Str → Str} {rw' : Str → List Str} (m : Mkt ys al rw') (g : Good (ws ys al rw') ys ord) {i : Nat} {p : Str} (hp : ord[i]? = some p) :
    ∃ r, (rw' p).filter (fun t => !decide (t ∈ (ord.take i).map al)) = al p :: r := by
  have hpy : p ∈ ys := g.perm.mem_iff.mp (List.mem_of_getElem? hp)
  have hmem := m.rmem p hpy p hpy
  have hat := ix_at hmem
  have hlt := ix_lt hmem
  have e : rw' p = (rw' p).take (ix (rw' p) (al p)) ++ al p :: (rw' p).drop (ix (rw' p) (al p) + 1) := by
    have e2 : (rw' p)[ix (rw' p) (al p)]'hlt = al p := (List.getElem?_eq_some_iff.mp hat).2
    conv => lhs; rw [← List.take_append_drop (ix (rw' p) (al p)) (rw' p), List.drop_eq_getElem_cons hlt, e2]
  have h1 : ((rw' p).take (ix (rw' p) (al p))).filter (fun t => !decide (t ∈ (ord.take i).map al)) = [] := by
    rw [List.filter_eq_nil_iff]
    intro t ht
    have htr := List.mem_of_mem_take ht
    obtain ⟨u, hu, rfl⟩ := List.mem_map.mp (m.rsub p hpy t htr)
    have hw : u ∈ ws ys al rw' p := (ws_mem m hpy).mpr ⟨hu, (mem_take_ix' (m.rnd p hpy) htr).mp ht⟩
    have := g.before i p hp u hw
    simp only [Bool.not_eq_true', decide_eq_false_iff_not, Decidable.not_not]
    exact List.mem_map.mpr ⟨u, this, rfl⟩
  have h2 : al p ∉ (ord.take i).map al := fun hm => by
    obtain ⟨q, hq, e⟩ := List.mem_map.mp hm
    have hqy : q ∈ ys := g.perm.mem_iff.mp (List.mem_of_mem_take hq)
    have := al_inj m.ndal hqy hpy e
    subst this
    exact not_mem_take (g.perm.nodup_iff.mpr m.nd) hp hq
  rw [e, List.filter_append, h1, List.nil_append, List.filter_cons, if_pos (by simpa using h2)]
  exact ⟨_, rfl⟩
/-- the way along the wants -/
structure Way (W : Str → List Str) (left way : List Str) : Prop where
  ne : way ≠ []
  sub : ∀ p ∈ way, p ∈ left
  nd : way.dropLast.Nodup
  step : ∀ (i : Nat) (p q : Str), way[i]? = some p → way[i + 1]? = some q → q ∈ W p
theorem way_len {W : Str → List Str} {left way : List Str} (x : Way W left way) : way.length ≤ left.length + 1 := by
  have h1 : way.dropLast.length ≤ left.length := List.Nodup.length_le_of_subset x.nd (fun p hp => x.sub p ((List.dropLast_sublist _).subset hp))
  rw [List.length_dropLast] at h1
  omega
theorem way_next {W : Str → List Str} {left way : List Str} {l q : Str} (x : Way W left way) (hl : way.getLast? = some l) (hn : l ∉ way.dropLast) (hq : q ∈ W l) (hql : q ∈ left) : Way W left (way ++ [q]) := by
  have hdl : (way ++ [q]).dropLast = way := by simp
  have hw : way = way.dropLast ++ [l] := by
    have hne := x.ne
    have e := List.dropLast_concat_getLast hne
    have e2 : way.getLast hne = l := by
      rw [List.getLast?_eq_some_getLast hne] at hl
      exact Option.some.inj hl
    rw [e2] at e
    exact e.symm
  refine ⟨by simp, fun p hp => ?_, ?_, fun i p r hp hr => ?_⟩
  · rcases List.mem_append.mp hp with h | h
    · exact x.sub p h
    · simp at h; subst h; exact hql
  · rw [hdl, hw]
    rw [List.nodup_append]
    exact ⟨x.nd, by simp, fun a ha b hb e => hn (by simp at hb; rw [← hb, ← e]; exact ha)⟩
  · by_cases hi : i + 1 < way.length
    · rw [List.getElem?_append_left (by omega)] at hp
      rw [List.getElem?_append_left hi] at hr
      exact x.step i p r hp hr
    · have hlen : i + 1 < (way ++ [q]).length := (List.getElem?_eq_some_iff.mp hr).1
      rw [List.length_append] at hlen
      simp at hlen
      have ei : i + 1 = way.length := by omega
      rw [List.getElem?_append_right (by omega), ei] at hr
      simp at hr
      subst hr
      rw [List.getElem?_append_left (by omega)] at hp
      have hlast : way[way.length - 1]? = some l := by rw [← List.getLast?_eq_getElem?]; exact hl
      have e2 : i = way.length - 1 := by omega
      rw [e2, hlast] at hp
      cases hp
      exact hq
theorem nbrs_get {r : List Str} {i : Nat} {e : Str × Str} (h : (nbrs r)[i]? = some e) : r[i]? = some e.1 ∧ (if i + 1 < r.length then r[i + 1]? = some e.2 else r[0]? = some e.2 ∧ i + 1 = r.length) := by
  unfold nbrs at h
  rw [List.getElem?_zip_eq_some] at h
  obtain ⟨h1, h2⟩ := h
  refine ⟨h1, ?_⟩
  have hi := (List.getElem?_eq_some_iff.mp h1).1
  by_cases hlt : i + 1 < r.length
  · rw [if_pos hlt]
    rw [List.getElem?_append_left (by rw [List.length_drop]; omega), List.getElem?_drop] at h2
    rw [Nat.add_comm]
    exact h2
  · rw [if_neg hlt]
    rw [List.getElem?_append_right (by rw [List.length_drop]; omega), List.length_drop] at h2
    have e : i - (r.length - 1) = 0 := by omega
    rw [e, List.getElem?_take, if_pos (by omega)] at h2
    exact ⟨h2, by omega⟩
/-- a way that comes back is a ring -/
theorem way_ring {W : Str → List Str} {ys left way : List Str} {l : Str} (x : Way W left way) (hsub : ∀ p ∈ left, p ∈ ys) (hself : ∀ p ∈ ys, p ∉ W p) (hl : way.getLast? = some l) (hm : l ∈ way.dropLast) : Ring W ys (way.dropLast.drop (ix way l)) := by
  have hlast : way[way.length - 1]? = some l := by rw [← List.getLast?_eq_getElem?]; exact hl
  have hlen : 0 < way.length := List.length_pos_iff.mpr x.ne
  have hj : ix way l < way.length - 1 := by
    have h1 := ix_at hm
    have hlt := ix_lt hm
    rw [List.length_dropLast] at hlt
    -- the first place in the way is in the part ahead
    have hfirst : ix way l ≤ ix way.dropLast l := by
      refine Nat.le_of_not_lt fun hgt => ?_
      have e := ix_first hgt
      rw [List.getElem?_dropLast, if_pos hlt] at h1
      exact e h1
    omega
  generalize hix : ix way l = j at hj
  have hjl : way[j]? = some l := by rw [← hix]; exact ix_at (List.mem_of_getElem? hlast)
  have rl : (way.dropLast.drop j).length = way.length - 1 - j := by rw [List.length_drop, List.length_dropLast]
  have rget : ∀ i, i < way.length - 1 - j → (way.dropLast.drop j)[i]? = way[j + i]? := fun i hi => by
    rw [List.getElem?_drop, List.getElem?_dropLast, if_pos (by omega)]
  have two : 2 ≤ (way.dropLast.drop j).length := by
    rw [rl]
    refine Nat.le_of_not_lt fun hlt => ?_
    have e : j + 1 = way.length - 1 := by omega
    have := x.step j l l hjl (by rw [e]; exact hlast)
    exact hself l (hsub l (x.sub l (List.mem_of_getElem? hjl))) this
  refine ⟨two, (List.drop_sublist j way.dropLast).nodup x.nd, fun p hp => hsub p (x.sub p ((List.dropLast_sublist _).subset (List.mem_of_mem_drop hp))), fun e he => ?_⟩
  obtain ⟨i, hi, ee⟩ := List.getElem_of_mem he
  have hg : (nbrs (way.dropLast.drop j))[i]? = some e := by rw [← ee]; exact List.getElem?_eq_getElem hi
  obtain ⟨h1, h2⟩ := nbrs_get hg
  have hir := (List.getElem?_eq_some_iff.mp h1).1
  rw [rl] at hir
  rw [rget i hir] at h1
  by_cases hlt : i + 1 < (way.dropLast.drop j).length
  · rw [if_pos hlt] at h2
    rw [rl] at hlt
    rw [rget (i + 1) hlt] at h2
    exact x.step (j + i) _ _ h1 (by rw [← h2]; rfl)
  · rw [if_neg hlt] at h2
    obtain ⟨h3, h4⟩ := h2
    rw [rl] at h4
    rw [rget 0 (by omega), Nat.add_zero, hjl] at h3
    have e2 : e.2 = l := (Option.some.inj h3).symm
    rw [e2]
    exact x.step (j + i) _ _ h1 (by rw [← hlast]; congr 1; omega)
def ringB (W : Str → List Str) (ys zs : List Str) : Bool := decide (2 ≤ zs.length) && (zs.all (fun z => decide (z ∈ ys)) && decide zs.Nodup) && (nbrs zs).all fun e => decide (e.2 ∈ W e.1)
theorem ringB_true {W : Str → List Str} {ys r : List Str} (h : Ring W ys r) : ringB W ys r = true := by
  unfold ringB
  rw [Bool.and_eq_true, Bool.and_eq_true, Bool.and_eq_true]
  exact ⟨⟨decide_eq_true h.two, List.all_eq_true.mpr fun p hp => decide_eq_true (h.sub p hp), decide_eq_true h.nd⟩, List.all_eq_true.mpr fun e he => decide_eq_true (h.wants e he)⟩
end Y

/-! k61: orders, rings and wants of a stock. -/
namespace Y
open PySem PySem.Spec PyProof.Rows L2
local macro_rules | `(tactic| fail) => `(tactic| ((first
  | with_reducible refine wS_seq ?_
  | with_reducible refine wS_ret ?_
  | with_reducible refine wS_set ?_
  | with_reducible refine wS_asgTup ?_
  | with_reducible refine wS_asg ?_
  | with_reducible refine wS_par ?_
  | with_reducible refine wS_drop ?_
  | with_reducible refine wS_dput ?_
  | with_reducible refine wS_fld ?_
  | with_reducible refine wS_next ?_
  | with_reducible refine wS_nextE ?_
  | with_reducible refine wS_brkE ?_
  | with_reducible refine wS_brk ?_
  | with_reducible refine wT_B ?_
  | with_reducible refine wT_Test ?_
  | with_reducible refine wT_not ?_
  | with_reducible refine wT_yes ?_
  | (with_reducible refine wE_var' ?_; refine ⟨_, rfl, ?_⟩)
  | with_reducible refine wE_int ?_
  | with_reducible refine wE_bl ?_
  | with_reducible refine wE_str ?_
  | with_reducible refine wE_non ?_
  | with_reducible refine wE_op ?_
  | with_reducible refine wE_un ?_
  | with_reducible refine wE_isi ?_
  | with_reducible refine wE_cbLen ?_
  | with_reducible refine wE_cbLenS ?_
  | with_reducible refine wE_cbLenD ?_
  | with_reducible refine wE_cbListOf ?_
  | with_reducible refine wE_cbTup ?_
  | with_reducible refine wE_isN ?_
  | with_reducible refine wE_notN ?_
  | with_reducible refine a_neg ?_
  | with_reducible refine wA_nil ?_
  | with_reducible refine wA_cons ?_
  | with_reducible refine wA_star ?_
  | with_reducible refine wE_sl ?_
  | with_reducible refine wO_none ?_
  | with_reducible refine wO_some ?_
  | with_reducible refine wE_notV ?_
  | with_reducible refine wE_dget ?_
  | with_reducible refine wE_din ?_
  | with_reducible refine wE_dnotin ?_
  | with_reducible refine wE_fld ?_
  | with_reducible refine wE_frz ?_
  | with_reducible refine wE_bmL ?_
  | with_reducible refine wE_call ?_
  | with_reducible refine wG_name ?_
  | with_reducible refine wG_tup rfl ?_
  | with_reducible refine wGs_consM ?_
  | with_reducible refine wGs_nilM ?_
  | with_reducible refine wGs_nil ?_
  | with_reducible refine wGs_cons ?_) <;> (try dsimp only)))

section
variable {P : Program} {w : World} {K : PySem.W.Frag} {mg : Str → Option Value} {base : Heap} {C I W : Addr} {t1 t2 : Tok}
theorem mkt_of {ps ts ys : List Str} {rw' : Str → List Str} {al : Str → Str} (st : StockOk ps ts ys rw') (ha : AlOk ps ts al) : Mkt ys al rw' := by
  have hyp : ∀ p ∈ ys, p ∈ ps := fun p hp => st.ys.mem_iff.mp hp
  have pm : (ys.map al).Perm ts := (st.ys.map al).trans ha.perm
  refine ⟨st.ys.nodup_iff.mpr st.ps.nd, pm.nodup_iff.mpr st.ts.nd, by rw [st.ys.length_eq]; exact st.ps.few, fun p hp => (st.ps.ok p (hyp p hp)).ok, fun p hp => (st.rows.perm p (hyp p hp)).nodup_iff.mpr st.ts.nd, fun p hp q hq => ?_, fun p hp t ht => ?_⟩
  · exact (st.rows.perm p (hyp p hp)).mem_iff.mpr (pm.mem_iff.mp (List.mem_map.mpr ⟨q, hq, rfl⟩))
  · exact pm.mem_iff.mpr ((st.rows.perm p (hyp p hp)).mem_iff.mp ht)
theorem wok_of {ys : List Str} {rw' : Str → List Str} {al : Str → Str} (m : Mkt ys al rw') : Wok (ws ys al rw') ys :=
  ⟨m.nd, m.few, m.ok, fun p hp q hq => ((ws_mem m hp).mp hq).1, fun p hp => ws_few m hp⟩
/-- a stock and an allotment are handed in -/
def StAl (C : Addr) (s t : Sl) (ps ts ys : List Str) (rw : Str → List Str) (al : Str → Str) : Prop := ∃ ks : List Str, s = .d (stockD C ps ts ys rw) ∧ t = .d (.dct (funD (strF al) ks)) ∧ StockOk ps ts ys rw ∧ AlOk ps ts al ∧ ks.Perm ps
def Forder_for (C : Addr) : FF := fun ss O P => ∃ (s t : Sl) (ps ts ys : List Str) (rw : Str → List Str) (al : Str → Str), ss = [s, t] ∧ StAl C s t ps ts ys rw al ∧ (∀ ord, Good (ws ys al rw) ys ord → P (.d (.lst (sD ord))) O) ∧ (∀ left, Bad (ws ys al rw) ys left → P (.d .non) O)
abbrev s_order_for : Stmt := topS 29
theorem sc_order_for : FnScope ["stock", "allotment", "known"] ["stock", "allotment"] (defScope s_order_for) := ⟨rfl, rfl, rfl, by decide +kernel, rfl, by decide +kernel, by decide +kernel⟩
theorem ok_order_for {f f1 f2 f3 f4 : Addr} {fd fd1 fd2 fd3 fd4 : FuncData} (Dd : Df K mg "order_for" "order_for" s_order_for f fd ["stock", "allotment"]) (G : GT K mg C I W t1 t2) (F_checked_stock : Fn P w K mg base 1 "checked_stock" f1 fd1 ["stock"] (spA K 1 (Fchecked_stock C))) (F_checked_allotment : Fn P w K mg base 2 "checked_allotment" f2 fd2 ["stock", "allotment"] (spA K 2 (Fchecked_allotment C))) (F_wanted_in : Fn P w K mg base 1 "wanted_in" f3 fd3 ["rows", "allotment"] (spA K 2 Fwanted_in)) (F_order_keeping : Fn P w K mg base 1 "order_keeping" f4 fd4 ["wanted"] (spA K 1 Forder_keeping)) :
    Fn P w K mg base 3 "order_for" f fd ["stock", "allotment"] (spA K 2 (Forder_for C)) := by
  refine Dd.mk' (Dd.fn.ok sc_order_for (fun vs H Q E h => spA_len h) (fun cdv A outer s H vs Q E hr h => ?_))
  have hu := hu_of hr
  refine ⟨_, (pss_cons (ps_set (i := 2) sc_order_for.nd rfl (Or.inl rfl) (pe_fn F_checked_stock (hr.mono (by decide)) (by rfl) (pa_cons (pv 0) pa_nil)))
  (pss_one (ps_ret (pe_ix (ixK K) (pe_fn F_order_keeping (hr.mono (by decide)) (by rfl) (pa_cons (pe_fn F_wanted_in (hr.mono (by decide)) (by rfl) (pa_cons (fldK K (pv 2) rfl) (pa_cons (pe_fn F_checked_allotment (hr.mono (by decide)) (by rfl) (pa_cons (pv 2) (pa_cons (pv 1) pa_nil))) pa_nil))) pa_nil)) pe_int (fun _ _ => rfl))))), wS_body h fun ss O P hl hf => ?_⟩
  obtain ⟨s, t, ps, ts, ys, rw', al, rfl, ⟨ks, rfl, rfl, st, ha, hk⟩, pg, pb⟩ := hf
  have m := mkt_of st ha
  repeat fail
  refine ⟨rfl, _, rfl, ?_⟩
  repeat fail
  refine ⟨C, _, _, .obj _ _, G.cS.cl, G.nR, stock_rows ps ts ys rw', ?_⟩
  repeat fail
  refine ⟨rfl, ps, ts, ys, ks, rw', al, rfl, st, ha, hk, ?_⟩
  repeat fail
  refine ⟨rfl, ys, al, rw', rfl, m, ?_⟩
  repeat fail
  refine ⟨rfl, ys, ws ys al rw', rfl, wok_of m, fun ord hg => ?_, fun left hb => ?_⟩
  · repeat fail
    exact a_ix (.tup _) (i := 0) atI_zero (pg ord hg)
  · repeat fail
    exact a_ix (.tup _) (i := 0) atI_zero (pb left hb)
def Fwanting (C : Addr) : FF := fun ss O P => ∃ (s t : Sl) (ps ts ys : List Str) (rw : Str → List Str) (al : Str → Str), ss = [s, t] ∧ StAl C s t ps ts ys rw al ∧
  ∀ qs : List (Str × Str), qs.Perm (ys.flatMap fun p => (ws ys al rw p).map fun q => (p, q)) → qs.Pairwise (fun x y => sl2 y x = false) → P (.d (.lst (qs.map pairD))) O
theorem flat_len {α β : Type} {f : α → List β} {n : Nat} : ∀ {xs : List α}, (∀ x ∈ xs, (f x).length ≤ n) → (xs.flatMap f).length ≤ xs.length * n
  | [], _ => by simp
  | x :: xs, h => by
    have h1 := h x List.mem_cons_self
    have ih := flat_len (f := f) (n := n) (xs := xs) fun y hy => h y (List.mem_cons_of_mem _ hy)
    rw [List.flatMap_cons, List.length_append, List.length_cons, Nat.succ_mul]
    omega
abbrev s_wanting : Stmt := topS 27
theorem sc_wanting : FnScope ["stock", "allotment", "known", "wanted", "person", "other"] ["stock", "allotment"] (defScope s_wanting) := ⟨rfl, rfl, rfl, by decide +kernel, rfl, by decide +kernel, by decide +kernel⟩
theorem ok_wanting {f f1 f2 f3 : Addr} {fd fd1 fd2 fd3 : FuncData} (Dd : Df K mg "wanting" "wanting" s_wanting f fd ["stock", "allotment"]) (B : BT mg) (G : GT K mg C I W t1 t2) (F_checked_stock : Fn P w K mg base 1 "checked_stock" f1 fd1 ["stock"] (spA K 1 (Fchecked_stock C))) (F_checked_allotment : Fn P w K mg base 2 "checked_allotment" f2 fd2 ["stock", "allotment"] (spA K 2 (Fchecked_allotment C))) (F_wanted_in : Fn P w K mg base 1 "wanted_in" f3 fd3 ["rows", "allotment"] (spA K 2 Fwanted_in)) :
    Fn P w K mg base 3 "wanting" f fd ["stock", "allotment"] (spA K 2 (Fwanting C)) := by
  refine Dd.mk' (Dd.fn.ok sc_wanting (fun vs H Q E h => spA_len h) (fun cdv A outer s H vs Q E hr h => ?_))
  have hu := hu_of hr
  refine ⟨_, (pss_cons (ps_set (i := 2) sc_wanting.nd rfl (Or.inl rfl) (pe_fn F_checked_stock (hr.mono (by decide)) (by rfl) (pa_cons (pv 0) pa_nil)))
  (pss_cons (ps_set (i := 3) sc_wanting.nd rfl (Or.inr rfl) (pe_fn F_wanted_in (hr.mono (by decide)) (by rfl) (pa_cons (fldK K (pv 2) rfl) (pa_cons (pe_fn F_checked_allotment (hr.mono (by decide)) (by rfl) (pa_cons (pv 2) (pa_cons (pv 1) pa_nil))) pa_nil))))
  (pss_one (ps_ret (pe_callB (sortedPSK K) (by rfl) B.sorted (by decide +kernel) (pa_cons (pe_lc2 (own := [("person", 4), ("other", 5)]) (vs1 := [5]) rfl sc_wanting.nd (pi_keys (pv 3)) (blkOk_by (by first | decide +kernel | rfl)) (by decide) (fun _ _ _ _ _ => (pg_name (i := 4) sc_wanting.nd rfl (by first | exact Or.inl rfl | exact Or.inr rfl))) (fun _ _ _ _ _ => pts_nil) (fun _ _ _ _ _ => (pi_keys (pe_dget hu (pv 3) (pv 4) (fun _ _ => rfl)))) (fun _ _ _ _ _ => (pg_name (i := 5) sc_wanting.nd rfl (by first | exact Or.inl rfl | exact Or.inr rfl))) (fun _ _ _ _ _ => pts_nil) (fun _ _ _ _ _ => (pe_tup (pa_cons (pv 4) (pa_cons (pv 5) pa_nil))))) pa_nil)))))), wS_body h fun ss O P hl hf => ?_⟩
  obtain ⟨s, t, ps, ts, ys, rw', al, rfl, ⟨ks, rfl, rfl, st, ha, hk⟩, p⟩ := hf
  have m := mkt_of st ha
  have wk := wok_of m
  have hyl := m.few
  repeat fail
  refine ⟨rfl, _, rfl, ?_⟩
  repeat fail
  refine ⟨C, _, _, .obj _ _, G.cS.cl, G.nR, stock_rows ps ts ys rw', ?_⟩
  repeat fail
  refine ⟨rfl, ps, ts, ys, ks, rw', al, rfl, st, ha, hk, ?_⟩
  repeat fail
  refine ⟨rfl, ys, al, rw', rfl, m, ?_⟩
  repeat fail
  refine wE_cb (wA_cons (wE_lc2P (tgk_name (by decide)) (tgk_name (by decide)) (wI_keys ?_)))
  repeat fail
  have eG : ∀ zs : List Str, (sD zs).flatMap (fun d => match d with | .str z => (ws ys al rw' z).map fun q => pairD (z, q) | _ => []) = (zs.flatMap fun p => (ws ys al rw' p).map fun q => (p, q)).map pairD := by
    intro zs
    induction zs with
    | nil => rfl
    | cons z zs ih =>
      show (D.str z :: sD zs).flatMap _ = _
      rw [List.flatMap_cons, List.flatMap_cons, List.map_append, ih, List.map_map]
      rfl
  refine ⟨_, rfl, fun d => match d with | .str z => (ws ys al rw' z).map fun q => pairD (z, q) | _ => [], fun _ _ => trivial, ?_, fun i d acc a hd => ?_, ?_⟩
  · rw [keysD_funD, eG, List.length_map]
    have := flat_len (f := fun p => (ws ys al rw' p).map fun q => (p, q)) (n := 20) (xs := ys) (fun x hx => by rw [List.length_map]; exact ws_few m hx)
    have : ys.length * 20 ≤ 20 * 20 := Nat.mul_le_mul_right 20 hyl
    omega
  · rw [keysD_funD] at hd
    obtain ⟨z, hz, hzi, rfl⟩ := mem_of_strs hd
    repeat fail
    refine ⟨rfl, wI_keys ?_⟩
    repeat fail
    refine ⟨_, z, _, .dct _, rfl, lookD_in hz, _, rfl, rfl, fun _ => trivial, onS fun q => some (pairD (z, q)), ?_, fun j e acc2 he => ?_⟩
    · rw [keysD_funD, filterMap_onS, filterMap_some]
    · rw [keysD_funD] at he
      obtain ⟨q, hq, hqi, rfl⟩ := mem_of_strs he
      repeat fail
      refine ⟨fun _ => ?_, fun q => by cases q⟩
      refine wE_tup ?_
      repeat fail
      exact ⟨[.str z, .str q], rfl, (by show 2 ≤ 1000; decide), rfl, _, rfl, rfl⟩
  · rw [keysD_funD, eG]
    repeat fail
    exact a_sortedPS (.lst _) p
def Ftaken_by : FF := fun ss O P => ∃ (x : D) (ys ord : List Str) (al : Str → Str) (rw : Str → List Str), ss = [.d (.dct (funD (rtS rw) ys)), .d x] ∧ SeqD x (sD ord) ∧ Mkt ys al rw ∧ Good (ws ys al rw) ys ord ∧ ∀ zs : List Str, zs.Perm ys → P (.d (.dct (funD (strF al) zs))) O
abbrev s_taken_by : Stmt := topS 25
theorem sc_taken_by : FnScope ["rows", "order", "found", "gone", "person", "thing"] ["rows", "order"] (defScope s_taken_by) := ⟨rfl, rfl, rfl, by decide +kernel, rfl, by decide +kernel, by decide +kernel⟩
theorem ok_taken_by {f : Addr} {fd : FuncData} (Dd : Df K mg "taken_by" "taken_by" s_taken_by f fd ["rows", "order"]) (B : BT mg) :
    Fn P w K mg base 1 "taken_by" f fd ["rows", "order"] (spA K 2 Ftaken_by) := by
  refine Dd.mk' (Dd.fn.ok sc_taken_by (fun vs H Q E h => spA_len h) (fun cdv A outer s H vs Q E hr h => ?_))
  have hu := hu_of hr
  refine ⟨_, (pss_cons (ps_asg (pe_tup (pa_cons pe_dnewK (pa_cons pe_dnewK pa_nil))) (tupK K 2 rfl (pgs_cons (pg_name (i := 2) sc_taken_by.nd rfl (Or.inr rfl)) (pgs_cons (pg_name (i := 3) sc_taken_by.nd rfl (Or.inr rfl)) pgs_nil))))
  (pss_cons (ps_for PassesOwn.never rfl (seqK K (pv 1)) (pg_name (i := 4) sc_taken_by.nd rfl (Or.inl rfl))
  (pss_cons (ps_dput hu (pv 2) (pv 4) (pe_ix (ixK K) (pe_lc (own := [("thing", 5)]) rfl sc_taken_by.nd (seqK K (pe_dget hu (pv 0) (pv 4) (fun _ _ => rfl))) (blkOk_by (by first | decide +kernel | rfl)) (fun _ _ _ _ _ => (pg_name (i := 5) sc_taken_by.nd rfl (by first | exact Or.inl rfl | exact Or.inr rfl))) (fun _ _ _ _ _ => (pts_one (pt_cmp (pc_dnotin hu (pv 5) (pv 3))))) (fun _ _ _ _ _ => (pv 5))) pe_int (fun _ _ => rfl)) rfl)
  (pss_one (ps_dput hu (pv 3) (pe_dget hu (pv 2) (pv 4) (fun _ _ => rfl)) pe_bl rfl))))
  (pss_one (ps_ret (pe_frz (pe_dc (own := [("person", 4)]) rfl sc_taken_by.nd (seqK K (pe_callB (call_sortedD rfl) (by rfl) B.sorted (by decide +kernel) (pa_cons (pv 2) pa_nil))) (blkOk_by (by first | decide +kernel | rfl)) (fun _ _ _ _ _ => (pg_name (i := 4) sc_taken_by.nd rfl (by first | exact Or.inl rfl | exact Or.inr rfl))) (fun _ _ _ _ _ => pts_nil) (fun _ _ _ _ _ => (pv 4)) (fun _ _ _ _ _ => (pe_dget hu (pv 2) (pv 4) (fun _ _ => rfl))))))))), wS_body h fun ss O P hl hf => ?_⟩
  obtain ⟨x, ys, ord, al, rw', rfl, hx, m, g, p⟩ := hf
  have hyl := m.few
  have ndo : ord.Nodup := g.perm.nodup_iff.mpr m.nd
  repeat fail
  refine wE_dnewOwn 1 fun fa => ?_
  repeat fail
  refine wE_dnewOwn 2 fun ga => ?_
  repeat fail
  refine ⟨rfl, by decide, ?_⟩
  repeat fail
  refine wS_for (wI_seq ?_)
  repeat fail
  refine ⟨_, hx _, fun i Γ' O' => ∃ x4, Γ' = [some (.d (.dct (funD (rtS rw') ys))), some (.d x), some (.p 1 fa), some (.p 2 ga), x4, none] ∧ O' = (2, ga, .ok (funD (fun _ => .bl true) ((ord.take i).map al))) :: (1, fa, .ok (funD (strF al) (ord.take i))) :: O, ⟨none, rfl, rfl⟩, fun _ _ _ _ => hx _, ?_, ?_⟩
  · rintro i d Γ' O' hd ⟨x4, rfl, rfl⟩
    obtain ⟨z, hz, hzi, rfl⟩ := mem_of_strs hd
    have hzy : z ∈ ys := g.perm.mem_iff.mp hz
    have hno := not_mem_take ndo hzi
    obtain ⟨r, hr⟩ := first_left m g hzi
    have hno2 : al z ∉ (ord.take i).map al := fun hm => by
      obtain ⟨q, hq, e⟩ := List.mem_map.mp hm
      have hqy : q ∈ ys := g.perm.mem_iff.mp (List.mem_of_mem_take hq)
      have := al_inj m.ndal hqy hzy e
      subst this
      exact hno hq
    have htl : (ord.take i).length ≤ 20 := by
      rw [List.length_take]
      have := g.perm.length_eq
      omega
    repeat fail
    refine wE_lcS (tgk_name (by decide)) (wI_seq ?_)
    repeat fail
    refine ⟨_, z, _, .dct _, rfl, lookD_in hzy, _, .rt _, rw' z, fun t => if (!decide (t ∈ (ord.take i).map al)) = true then some (.str t) else none, rfl, ?_, fun _ _ => .rt _, fun t ht acc a => ?_, ?_⟩
    · have h1 : (rw' z).length ≤ ys.length := by
        have := List.Nodup.length_le_of_subset (m.rnd z hzy) (fun t ht => m.rsub z hzy t ht)
        simpa using this
      omega
    · repeat fail
      refine ⟨_, t, .own rfl, rfl, _, rfl, fun hb => ?_, fun hb => ?_⟩
      · repeat fail
        rw [lookD_some] at hb
        exact ⟨rfl, _, rfl, if_pos hb⟩
      · rw [lookD_some] at hb
        exact ⟨rfl, if_neg (by rw [hb]; decide)⟩
    · rw [filterMap_pred, hr]
      repeat fail
      refine a_ix (.lst _) (i := 0) (d := .str (al z)) atI_zero ?_
      repeat fail
      refine ⟨_, 1, fa, _, z, rfl, rfl, rfl, rfl, by rw [funD_len]; omega, ?_⟩
      have e1 : putD (funD (strF al) (ord.take i)) z (.str (al z)) = funD (strF al) (ord.take (i + 1)) := by
        rw [show D.str (al z) = strF al z from rfl, putD_funD hno, take_next hzi]
      rw [e1]
      repeat fail
      refine ⟨_, z, _, .own (l := 1) (a := fa) rfl, rfl, lookD_in (by rw [take_next hzi]; simp), ?_⟩
      refine ⟨_, 2, ga, _, al z, rfl, rfl, rfl, rfl, by rw [funD_len, List.length_map]; omega, _, rfl, ?_⟩
      have e2 : putD (funD (fun _ => D.bl true) ((ord.take i).map al)) (al z) (.bl true) = funD (fun _ => .bl true) ((ord.take (i + 1)).map al) := by
        rw [putD_funD (f := fun _ => D.bl true) hno2, take_next hzi, List.map_append]; rfl
      show (2, ga, OD.ok (putD (funD (fun _ => D.bl true) ((ord.take i).map al)) (al z) (.bl true))) :: _ = _
      rw [e2]
      rfl
  · rintro Γ' O' ⟨x4, rfl, rfl⟩
    rw [List.length_map, List.take_length]
    fail
    refine wE_forget 1 (wE_forget 2 (wE_frz (wE_dcS (tgk_name (by decide)) (wI_seq (wE_cb ?_)))))
    repeat fail
    have hfl : (funD (strF al) ord).length < 64 := by rw [funD_len, g.perm.length_eq]; omega
    refine a_sortedD (.own (l := 1) (a := fa) rfl) hfl fun zs hzs hso => ?_
    rw [funD_keys] at hzs
    refine ⟨_, .lst _, zs, fun z => some (z, strF al z), rfl, ?_, fun _ _ => .lst _, fun z hz acc a => ?_, fun b => ⟨99, b, _, rfl, rfl, ?_⟩⟩
    · rw [hzs.length_eq, g.perm.length_eq]; omega
    · repeat fail
      refine ⟨fun _ => ?_, fun q => by cases q⟩
      repeat fail
      exact ⟨_, z, _, .own (l := 1) (a := fa) rfl, rfl, lookD_in (hzs.mem_iff.mp hz), rfl, _, _, rfl, rfl, rfl⟩
    · rw [filterMap_funD (strF al), putAll_funD (hzs.nodup_iff.mpr ndo)]
      exact p zs (hzs.trans g.perm)
def Fis_order_for (C : Addr) : FF := fun ss O P => ∃ (s t : Sl) (x : D) (ps ts ys ord : List Str) (rw : Str → List Str) (al : Str → Str), ss = [s, t, .d x] ∧ StAl C s t ps ts ys rw al ∧ SeqD x (sD ord) ∧ Good (ws ys al rw) ys ord ∧ P (.d (.bl true)) O
abbrev s_is_order_for : Stmt := topS 30
theorem sc_is_order_for : FnScope ["stock", "allotment", "thing", "known", "mine"] ["stock", "allotment", "thing"] (defScope s_is_order_for) := ⟨rfl, rfl, rfl, by decide +kernel, rfl, by decide +kernel, by decide +kernel⟩
theorem ok_is_order_for {f f1 f2 f3 f4 f5 : Addr} {fd fd1 fd2 fd3 fd4 fd5 : FuncData} (Dd : Df K mg "is_order_for" "is_order_for" s_is_order_for f fd ["stock", "allotment", "thing"]) (B : BT mg) (G : GT K mg C I W t1 t2) (F_checked_stock : Fn P w K mg base 1 "checked_stock" f1 fd1 ["stock"] (spA K 1 (Fchecked_stock C))) (F_checked_allotment : Fn P w K mg base 2 "checked_allotment" f2 fd2 ["stock", "allotment"] (spA K 2 (Fchecked_allotment C))) (F_is_list : Fn P w K mg base 1 "is_list" f3 fd3 ["thing"] (spA K 1 Fis_list)) (F_are_unlike : Fn P w K mg base 2 "are_unlike" f4 fd4 ["known", "thing"] (spA K 2 Fare_unlike)) (F_taken_by : Fn P w K mg base 1 "taken_by" f5 fd5 ["rows", "order"] (spA K 2 Ftaken_by)) :
    Fn P w K mg base 3 "is_order_for" f fd ["stock", "allotment", "thing"] (spA K 3 (Fis_order_for C)) := by
  refine Dd.mk' (Dd.fn.ok sc_is_order_for (fun vs H Q E h => spA_len h) (fun cdv A outer s H vs Q E hr h => ?_))
  have hu := hu_of hr
  have hu0 : (A.deeper (envOfC "is_order_for" (defScope s_is_order_for) s.heap.objs.size f cdv)).units < cLine := Nat.lt_of_le_of_lt (Nat.le_add_right _ 64) hr.units
  refine ⟨_, (pss_cons (ps_set (i := 3) sc_is_order_for.nd rfl (Or.inl rfl) (pe_fn F_checked_stock (hr.mono (by decide)) (by rfl) (pa_cons (pv 0) pa_nil)))
  (pss_cons (ps_set (i := 4) sc_is_order_for.nd rfl (Or.inl rfl) (pe_fn F_checked_allotment (hr.mono (by decide)) (by rfl) (pa_cons (pv 3) (pa_cons (pv 1) pa_nil))))
  (pss_cons (ps_if (PW.pt (pw_or (pt_not (pt_val (pe_fn F_is_list (hr.mono (by decide)) (by rfl) (pa_cons (pv 2) pa_nil)))) (pw_or (pt_not (pt_val (pe_fn F_are_unlike (hr.mono (by decide)) (by rfl) (pa_cons (fldK K (pv 3) rfl) (pa_cons (pv 2) pa_nil))))) (pw_or1 (pt_cmpR op_ne (pe_callB (lenSeqK K) (by rfl) B.len (by decide +kernel) (pa_cons (pv 2) pa_nil)) (pe_callB (lenSeqK K) (by rfl) B.len (by decide +kernel) (pa_cons (fldK K (pv 3) rfl) pa_nil)) (nomark _)))))) (pss_one (ps_ret pe_bl)) pss_nil)
  (pss_one (ps_ret (pe_cmpR (op_eqDR hu0) (pe_fn F_taken_by (hr.mono (by decide)) (by rfl) (pa_cons (fldK K (pv 3) rfl) (pa_cons (pv 2) pa_nil))) (pv 4) (nomark _))))))), wS_body h fun ss O P hl hf => ?_⟩
  obtain ⟨s, t, x, ps, ts, ys, ord, rw', al, rfl, ⟨ks, rfl, rfl, st, ha, hk⟩, hx, g, p⟩ := hf
  have m := mkt_of st ha
  have hyl := m.few
  have ndo : ord.Nodup := g.perm.nodup_iff.mpr m.nd
  obtain ⟨tt, ht, hkk⟩ := hx.isList
  repeat fail
  refine ⟨rfl, _, rfl, ?_⟩
  repeat fail
  refine ⟨rfl, ps, ts, ys, ks, rw', al, rfl, st, ha, hk, ?_⟩
  fail
  refine wS_seq (wS_ifF (wT_orF ?_))
  repeat fail
  refine ⟨rfl, _, _, _, rfl, ht, hkk, _, rfl, rfl, wT_orF ?_⟩
  repeat fail
  refine ⟨C, _, _, .obj _ _, G.cS.cl, G.nR, stock_rows ps ts ys rw', ?_⟩
  repeat fail
  refine ⟨rfl, _, x, ord, rfl, hx, by rw [g.perm.length_eq]; omega, _, rfl, ?_, ?_⟩
  · have e1 : (ord.all fun z => (lookD (funD (rtS rw') ys) z).isSome) = true := List.all_eq_true.mpr fun z hz => by
      rw [lookD_some]; exact decide_eq_true (g.perm.mem_iff.mp hz)
    rw [e1, decide_eq_true ndo]; rfl
  repeat fail
  refine a_lenSeq (hx _) ?_
  repeat fail
  refine ⟨C, _, _, .obj _ _, G.cS.cl, G.nP, stock_people ps ts ys rw', ?_⟩
  repeat fail
  refine a_lenSeq (.lst _) (a_neInt ⟨_, rfl, ?_, ?_⟩)
  · rw [List.length_map, List.length_map, g.perm.length_eq, st.ys.length_eq]; simp
  repeat fail
  refine ⟨C, _, _, .obj _ _, G.cS.cl, G.nR, stock_rows ps ts ys rw', ?_⟩
  repeat fail
  refine ⟨rfl, x, ys, ord, al, rw', rfl, hx, m, g, fun zs hzs => ?_⟩
  repeat fail
  refine a_eqDct (.dct _) (.dct _) (by rw [funD_len, funD_len, hzs.length_eq]) (fun k d hkd => ?_) p
  obtain ⟨z, hz, e⟩ := List.mem_map.mp hkd
  cases e
  exact ⟨lookD_in (hzs.mem_iff.mp hz), rfl⟩
def Fwanting_ring (C : Addr) : FF := fun ss O P => ∃ (s t : Sl) (ps ts ys : List Str) (rw : Str → List Str) (al : Str → Str), ss = [s, t] ∧ StAl C s t ps ts ys rw al ∧ (∀ ord, Good (ws ys al rw) ys ord → P (.d .non) O) ∧ (∀ left r, Bad (ws ys al rw) ys left → Ring (ws ys al rw) ys r → P (.d (.lst (sD r))) O)
theorem last_some {α : Type} {xs : List α} (h : xs ≠ []) : ∃ l, xs.getLast? = some l := ⟨xs.getLast h, List.getLast?_eq_some_getLast h⟩
abbrev s_wanting_ring : Stmt := topS 31
theorem sc_wanting_ring : FnScope ["stock", "allotment", "known", "wanted", "left", "way", "other"] ["stock", "allotment"] (defScope s_wanting_ring) := ⟨rfl, rfl, rfl, by decide +kernel, rfl, by decide +kernel, by decide +kernel⟩
theorem ok_wanting_ring {f f1 f2 f3 f4 : Addr} {fd fd1 fd2 fd3 fd4 : FuncData} (Dd : Df K mg "wanting_ring" "wanting_ring" s_wanting_ring f fd ["stock", "allotment"]) (B : BT mg) (G : GT K mg C I W t1 t2) (F_checked_stock : Fn P w K mg base 1 "checked_stock" f1 fd1 ["stock"] (spA K 1 (Fchecked_stock C))) (F_checked_allotment : Fn P w K mg base 2 "checked_allotment" f2 fd2 ["stock", "allotment"] (spA K 2 (Fchecked_allotment C))) (F_wanted_in : Fn P w K mg base 1 "wanted_in" f3 fd3 ["rows", "allotment"] (spA K 2 Fwanted_in)) (F_order_keeping : Fn P w K mg base 1 "order_keeping" f4 fd4 ["wanted"] (spA K 1 Forder_keeping)) :
    Fn P w K mg base 3 "wanting_ring" f fd ["stock", "allotment"] (spA K 2 (Fwanting_ring C)) := by
  refine Dd.mk' (Dd.fn.ok sc_wanting_ring (fun vs H Q E h => spA_len h) (fun cdv A outer s H vs Q E hr h => ?_))
  have hu := hu_of hr
  have hu64 := hr.units
  refine ⟨_, (pss_cons (ps_set (i := 2) sc_wanting_ring.nd rfl (Or.inl rfl) (pe_fn F_checked_stock (hr.mono (by decide)) (by rfl) (pa_cons (pv 0) pa_nil)))
  (pss_cons (ps_set (i := 3) sc_wanting_ring.nd rfl (Or.inl rfl) (pe_fn F_wanted_in (hr.mono (by decide)) (by rfl) (pa_cons (fldK K (pv 2) rfl) (pa_cons (pe_fn F_checked_allotment (hr.mono (by decide)) (by rfl) (pa_cons (pv 2) (pa_cons (pv 1) pa_nil))) pa_nil))))
  (pss_cons (ps_set (i := 4) sc_wanting_ring.nd rfl (Or.inr rfl) (pe_ix (ixK K) (pe_fn F_order_keeping (hr.mono (by decide)) (by rfl) (pa_cons (pv 3) pa_nil)) pe_int (fun _ _ => rfl)))
  (pss_cons (ps_if (pt_cmpR (eqDK K hu64) (pv 4) (pe_lst pa_nil) (nomark _)) (pss_one (ps_ret pe_non)) pss_nil)
  (pss_cons (ps_set (i := 5) sc_wanting_ring.nd rfl (Or.inl rfl) (pe_lst (pa_cons (pe_ix (ixK K) (pv 4) pe_int (fun _ _ => rfl)) pa_nil)))
  (pss_cons (ps_while PassesOwn.never (pt_cmpR (notInK K) (pe_ix (ixK K) (pv 5) (pe_un un_neg pe_int) (fun _ _ => rfl)) (pe_slice (slLK K) (pv 5) po_none (po_some (pe_un un_neg pe_int))) (by rfl)) (pss_one (ps_expr (bmK K PySem.F.plainAttrs_list PySem.F.slot_list_append PySem.F.type_list_append mt_append (pv 5) (pa_cons (pe_ix (ixK K) (pe_lc (own := [("other", 6)]) rfl sc_wanting_ring.nd (seqK K (pe_callB (call_sortedD rfl) (by rfl) B.sorted (by decide +kernel) (pa_cons (pe_dget hu (pv 3) (pe_ix (ixK K) (pv 5) (pe_un un_neg pe_int) (fun _ _ => rfl)) (fun _ _ => rfl)) pa_nil))) (blkOk_by (by first | decide +kernel | rfl)) (fun _ _ _ _ _ => (pg_name (i := 6) sc_wanting_ring.nd rfl (by first | exact Or.inl rfl | exact Or.inr rfl))) (fun _ _ _ _ _ => (pts_one (pt_cmpR (inK K) (pv 6) (pv 4) (by rfl)))) (fun _ _ _ _ _ => (pv 6))) pe_int (fun _ _ => rfl)) pa_nil)))))
  (pss_one (ps_ret (pe_slice (slLK K) (pv 5) (po_some (bmK K PySem.F.plainAttrs_list PySem.F.slot_list_index PySem.F.type_list_index (indexK K) (pv 5) (pa_cons (pe_ix (ixK K) (pv 5) (pe_un un_neg pe_int) (fun _ _ => rfl)) pa_nil))) (po_some (pe_un un_neg pe_int))))))))))), wS_body h fun ss O P hl hf => ?_⟩
  obtain ⟨s, t, ps, ts, ys, rw', al, rfl, ⟨ks, rfl, rfl, st, ha, hk⟩, pg, pb⟩ := hf
  have m := mkt_of st ha
  have wk := wok_of m
  have hyl := m.few
  repeat fail
  refine ⟨rfl, _, rfl, ?_⟩
  repeat fail
  refine ⟨C, _, _, .obj _ _, G.cS.cl, G.nR, stock_rows ps ts ys rw', ?_⟩
  repeat fail
  refine ⟨rfl, ps, ts, ys, ks, rw', al, rfl, st, ha, hk, ?_⟩
  repeat fail
  refine ⟨rfl, ys, al, rw', rfl, m, ?_⟩
  repeat fail
  refine ⟨rfl, ys, ws ys al rw', rfl, wk, fun ord hg => ?_, fun left hb => ?_⟩
  · repeat fail
    refine a_ix (.tup _) (i := 1) (d := .lst []) (atI_nat (j := 1) rfl) ?_
    fail
    refine wS_seq (wS_ifT ?_)
    repeat fail
    refine wE_lst ?_
    repeat fail
    refine ⟨[], rfl, by decide, a_eqStrs (xs := []) (ys := []) (.lst _) (.lst _) (fun z hz => by simp at hz) (fun z hz => by simp at hz) ⟨_, rfl, by simp, ?_⟩⟩
    repeat fail
    exact pg ord hg
  · repeat fail
    refine a_ix (.tup _) (i := 1) (d := .lst (sD left)) (atI_nat (j := 1) rfl) ?_
    fail
    refine wS_seq (wS_ifF ?_)
    repeat fail
    refine wE_lst ?_
    repeat fail
    have lok : ∀ z ∈ left, PyData.strOk z = true := fun z hz => m.ok z (hb.sub z hz)
    refine ⟨[], rfl, by decide, a_eqStrs (xs := left) (ys := []) (.lst _) (.lst _) lok (fun z hz => by simp at hz) ⟨_, rfl, decide_eq_false hb.ne, ?_⟩⟩
    have hll : left.length ≤ 20 := by
      have := List.Nodup.length_le_of_subset hb.nd hb.sub
      omega
    obtain ⟨l0, lr, hl0⟩ : ∃ l0 lr, left = l0 :: lr := by
      cases left with
      | nil => exact absurd rfl hb.ne
      | cons a r => exact ⟨a, r, rfl⟩
    repeat fail
    refine wE_lstOwn 1 ?_
    repeat fail
    refine a_ix (.lst _) (i := 0) (d := .str l0) (by rw [hl0]; exact atI_zero) ?_
    repeat fail
    refine ⟨[.str l0], rfl, (by show 1 ≤ 1000; decide), fun wa => ?_⟩
    repeat fail
    refine wS_while (fun mm Γ' O' => ∃ way, Γ' = [some (.d (stockD C ps ts ys rw')), some (.d (.dct (funD (strF al) ks))), some (.d (.obj C (stockF ps ts ys rw'))), some (.d (.dct (funD (wF (ws ys al rw')) ys))), some (.d (.lst (sD left))), some (.p 1 wa), none] ∧ O' = (1, wa, .ol (sD way)) :: O ∧ mm = left.length + 2 - way.length ∧ Way (ws ys al rw') left way) ⟨_, [l0], rfl, rfl, rfl, ⟨by simp, fun p hp => by simp at hp; subst hp; rw [hl0]; simp, by simp, fun i p q h1 h2 => by simp at h2⟩⟩ ?_
    rintro mm Γ' O' ⟨way, rfl, rfl, rfl, wy⟩
    obtain ⟨l, hl⟩ := last_some wy.ne
    have hwl := way_len wy
    have hll' : l ∈ left := wy.sub l (List.mem_of_getLast? hl)
    have hly : l ∈ ys := hb.sub l hll'
    have hat : atI (sD way) (-1) = some (.str l) := atI_map D.str (atI_neg1 hl)
    repeat fail
    refine a_ix (.own (l := 1) (a := wa) rfl) (i := -1) (d := .str l) hat ?_
    repeat fail
    refine ⟨_, rfl, ?_⟩
    refine a_slL (.own (l := 1) (a := wa) rfl) ?_
    rw [show (-(1 : Int)) = -1 from rfl, cutD_init, ← List.map_dropLast]
    refine a_notInStrs (.lst _) ⟨_, rfl, fun hn => ?_, fun hn => ?_⟩
    · have hn' : l ∉ way.dropLast := by simpa using hn
      repeat fail
      refine ⟨_, .own rfl, ?_⟩
      repeat fail
      refine wE_lcS (tgk_name (by decide)) (wI_seq (wE_cb ?_))
      repeat fail
      refine a_ix (.own (l := 1) (a := wa) rfl) (i := -1) (d := .str l) hat ⟨_, l, _, .dct _, rfl, lookD_in hly, ?_⟩
      repeat fail
      have wlen : (ws ys al rw' l).length ≤ 20 := ws_few m hly
      refine a_sortedD (.dct _) (by rw [funD_len]; omega) fun zs hzs hso => ?_
      rw [funD_keys] at hzs
      refine ⟨_, .lst _, zs, fun q => if decide (q ∈ left) = true then some (.str q) else none, rfl, by rw [hzs.length_eq]; omega, fun _ _ => .lst _, fun q hq acc a => ?_, ?_⟩
      · repeat fail
        refine a_inStrs (.lst _) ⟨_, rfl, fun hb' => ?_, fun hb' => ?_⟩
        · repeat fail
          exact ⟨rfl, _, rfl, if_pos hb'⟩
        · exact ⟨rfl, if_neg (by rw [hb']; decide)⟩
      · rw [filterMap_pred]
        obtain ⟨q1, hq1, hq1l⟩ := hb.wants l hll'
        have hin : q1 ∈ zs.filter (fun q => decide (q ∈ left)) := List.mem_filter.mpr ⟨hzs.mem_iff.mpr hq1, decide_eq_true hq1l⟩
        cases hfil : zs.filter (fun q => decide (q ∈ left)) with
        | nil => rw [hfil] at hin; simp at hin
        | cons q0 qr =>
          have h0 : q0 ∈ zs.filter (fun q => decide (q ∈ left)) := by rw [hfil]; exact List.mem_cons_self
          obtain ⟨h01, h02⟩ := List.mem_filter.mp h0
          have wn := way_next wy hl hn' (hzs.mem_iff.mp h01) (of_decide_eq_true h02)
          repeat fail
          refine a_ix (.lst _) (i := 0) (d := .str q0) atI_zero ?_
          repeat fail
          refine a_append (l := 1) rfl (by rw [List.length_map]; omega) ?_
          have hwl2 := way_len wn
          refine ⟨_, ?_, way ++ [q0], rfl, ?_, rfl, wn⟩
          · rw [List.length_append] at hwl2 ⊢
            simp at hwl2 ⊢
            omega
          · show _ = (1, wa, OD.ol ((way ++ [q0]).map D.str)) :: O
            rw [List.map_append]
            rfl
    · have hn' : l ∈ way.dropLast := by simpa using hn
      fail
      refine wE_forget 1 ?_
      repeat fail
      refine ⟨_, .own rfl, ?_⟩
      repeat fail
      refine a_ix (.own (l := 1) (a := wa) rfl) (i := -1) (d := .str l) hat ?_
      repeat fail
      refine a_index (.own (l := 1) (a := wa) (ds := sD way) rfl) (ix_at (List.mem_of_getLast? hl)) (fun _ hm => ix_first hm) ⟨_, rfl, ?_⟩
      repeat fail
      refine ⟨_, rfl, ?_⟩
      have rg := way_ring (ys := ys) wy hb.sub (fun p hp => ws_self m hp) hl hn'
      refine a_slL (.own (l := 1) (a := wa) rfl) ?_
      have hixl := ix_lt (List.mem_of_getLast? hl)
      rw [show (-(1 : Int)) = -1 from rfl, cutD_tail_init (by rw [List.length_map]; omega), ← List.map_dropLast, ← List.map_drop]
      exact pb left _ hb rg
theorem bnot_t {b : Bool} (h : (!b) = true) : b = false := by cases b <;> first | rfl | cases h
theorem bnot_f {b : Bool} (h : (!b) = false) : b = true := by cases b <;> first | rfl | cases h
theorem nbrs_eq (zs : List Str) (h : zs ≠ []) : ∃ z0, zs[0]? = some z0 ∧ nbrs zs = zs.zip (zs.drop 1 ++ [z0]) := by
  cases zs with
  | nil => exact absurd rfl h
  | cons z r => exact ⟨z, rfl, rfl⟩
theorem zipD_strs (zs us : List Str) : zipD (sD zs) (sD us) = itemsD ((zs.zip us).map fun e => (e.1, D.str e.2)) := by
  unfold zipD itemsD
  rw [List.zip_map, List.map_map, List.map_map]
  rfl
def Fis_wanting_ring (C : Addr) : FF := fun ss O P => ∃ (s t : Sl) (x : D) (ps ts ys : List Str) (rw : Str → List Str) (al : Str → Str), ss = [s, t, .d x] ∧ StAl C s t ps ts ys rw al ∧ ((x = .non ∧ P (.d (.bl false)) O) ∨ ∃ zs : List Str, SeqD x (sD zs) ∧ zs.length ≤ 1000 ∧ P (.d (.bl (ringB (ws ys al rw) ys zs))) O)
abbrev s_is_wanting_ring : Stmt := topS 32
theorem sc_is_wanting_ring : FnScope ["stock", "allotment", "thing", "known", "wanted", "one", "other"] ["stock", "allotment", "thing"] (defScope s_is_wanting_ring) := ⟨rfl, rfl, rfl, by decide +kernel, rfl, by decide +kernel, by decide +kernel⟩
theorem ok_is_wanting_ring {f f1 f2 f3 f4 f5 : Addr} {fd fd1 fd2 fd3 fd4 fd5 : FuncData} (Dd : Df K mg "is_wanting_ring" "is_wanting_ring" s_is_wanting_ring f fd ["stock", "allotment", "thing"]) (B : BT mg) (G : GT K mg C I W t1 t2) (F_checked_stock : Fn P w K mg base 1 "checked_stock" f1 fd1 ["stock"] (spA K 1 (Fchecked_stock C))) (F_checked_allotment : Fn P w K mg base 2 "checked_allotment" f2 fd2 ["stock", "allotment"] (spA K 2 (Fchecked_allotment C))) (F_wanted_in : Fn P w K mg base 1 "wanted_in" f3 fd3 ["rows", "allotment"] (spA K 2 Fwanted_in)) (F_is_list : Fn P w K mg base 1 "is_list" f4 fd4 ["thing"] (spA K 1 Fis_list)) (F_are_unlike : Fn P w K mg base 2 "are_unlike" f5 fd5 ["known", "thing"] (spA K 2 Fare_unlike)) :
    Fn P w K mg base 3 "is_wanting_ring" f fd ["stock", "allotment", "thing"] (spA K 3 (Fis_wanting_ring C)) := by
  refine Dd.mk' (Dd.fn.ok sc_is_wanting_ring (fun vs H Q E h => spA_len h) (fun cdv A outer s H vs Q E hr h => ?_))
  have hu := hu_of hr
  refine ⟨_, (pss_cons (ps_set (i := 3) sc_is_wanting_ring.nd rfl (Or.inl rfl) (pe_fn F_checked_stock (hr.mono (by decide)) (by rfl) (pa_cons (pv 0) pa_nil)))
  (pss_cons (ps_set (i := 4) sc_is_wanting_ring.nd rfl (Or.inr rfl) (pe_fn F_wanted_in (hr.mono (by decide)) (by rfl) (pa_cons (fldK K (pv 3) rfl) (pa_cons (pe_fn F_checked_allotment (hr.mono (by decide)) (by rfl) (pa_cons (pv 3) (pa_cons (pv 1) pa_nil))) pa_nil))))
  (pss_cons (ps_if (PW.pt (pw_or (pt_not (pt_val (pe_fn F_is_list (hr.mono (by decide)) (by rfl) (pa_cons (pv 2) pa_nil)))) (pw_or (pt_cmpR op_lt (pe_callB (lenSeqK K) (by rfl) B.len (by decide +kernel) (pa_cons (pv 2) pa_nil)) pe_int (nomark _)) (pw_or1 (pt_not (pt_val (pe_fn F_are_unlike (hr.mono (by decide)) (by rfl) (pa_cons (fldK K (pv 3) rfl) (pa_cons (pv 2) pa_nil))))))))) (pss_one (ps_ret pe_bl)) pss_nil)
  (pss_one (ps_ret (pe_callB (allK K rfl) (by rfl) B.all (by decide +kernel) (pa_cons (pe_lc (own := [("one", 5), ("other", 6)]) rfl sc_is_wanting_ring.nd (zipK K (by rfl) B.zip (pa_cons (pv 2) (pa_cons (pe_lst (starK K (pe_slice (slQK K) (pv 2) (po_some pe_int) po_none) (pa_cons (pe_ix (ixK K) (pv 2) pe_int (fun _ _ => rfl)) pa_nil))) pa_nil))) (blkOk_by (by first | decide +kernel | rfl)) (fun _ _ _ _ _ => (tupK K 2 rfl (pgs_cons (pg_name (i := 5) sc_is_wanting_ring.nd rfl (by first | exact Or.inl rfl | exact Or.inr rfl)) (pgs_cons (pg_name (i := 6) sc_is_wanting_ring.nd rfl (by first | exact Or.inl rfl | exact Or.inr rfl)) pgs_nil)))) (fun _ _ _ _ _ => pts_nil) (fun _ _ _ _ _ => (pe_cmp (pc_din hu (pv 6) (pe_dget hu (pv 4) (pv 5) (fun _ _ => rfl)))))) pa_nil))))))), wS_body h fun ss O P hl hf => ?_⟩
  obtain ⟨s, t, x, ps, ts, ys, rw', al, rfl, ⟨ks, rfl, rfl, st, ha, hk⟩, hx⟩ := hf
  have m := mkt_of st ha
  have wk := wok_of m
  have hyl := m.few
  repeat fail
  refine ⟨rfl, _, rfl, ?_⟩
  repeat fail
  refine ⟨C, _, _, .obj _ _, G.cS.cl, G.nR, stock_rows ps ts ys rw', ?_⟩
  repeat fail
  refine ⟨rfl, ps, ts, ys, ks, rw', al, rfl, st, ha, hk, ?_⟩
  repeat fail
  refine ⟨rfl, ys, al, rw', rfl, m, ?_⟩
  repeat fail
  rcases hx with ⟨rfl, p⟩ | ⟨zs, hx, hz, p⟩
  · refine wS_ifT (wT_orT ?_)
    repeat fail
    refine ⟨rfl, _, _, false, rfl, rfl, by decide, _, rfl, rfl, rfl, ?_⟩
    repeat fail
    exact p
  · obtain ⟨tt, ht, hkk⟩ := hx.isList
    refine wS_if (wT_orF ?_)
    repeat fail
    refine ⟨rfl, _, _, _, rfl, ht, hkk, _, rfl, rfl, wT_or ?_⟩
    repeat fail
    refine a_lenSeq (hx _) ?_
    repeat fail
    refine a_lt ⟨_, rfl, fun h2 => ?_, fun h2 => ?_⟩
    · have h2' : 2 ≤ zs.length := by
        have := of_decide_eq_false h2
        rw [List.length_map] at this
        omega
      repeat fail
      refine ⟨C, _, _, .obj _ _, G.cS.cl, G.nR, stock_rows ps ts ys rw', ?_⟩
      repeat fail
      refine ⟨rfl, _, x, zs, rfl, hx, by omega, _, rfl, fun hb => ?_, fun hb => ?_⟩
      · repeat fail
        have e : ringB (ws ys al rw') ys zs = false := by
          unfold ringB
          have e2 : (zs.all fun z => (lookD (funD (rtS rw') ys) z).isSome) = zs.all fun z => decide (z ∈ ys) := by
            congr 1; funext z; rw [lookD_some]
          rw [e2] at hb
          have hb' : ((zs.all fun z => decide (z ∈ ys)) && decide zs.Nodup) = false := bnot_t hb
          rw [hb', Bool.and_false, Bool.false_and]
        rw [e] at p
        exact p
      · have e2 : (zs.all fun z => (lookD (funD (rtS rw') ys) z).isSome) = zs.all fun z => decide (z ∈ ys) := by
          congr 1; funext z; rw [lookD_some]
        rw [e2] at hb
        have hb' : ((zs.all fun z => decide (z ∈ ys)) && decide zs.Nodup) = true := bnot_f hb
        have hall := (Bool.and_eq_true_iff.mp hb').1
        obtain ⟨z0, hz0, hnb⟩ := nbrs_eq zs (fun z => by rw [z] at h2'; simp at h2')
        repeat fail
        refine wE_allI (tgk_tup (tgk_consN (by decide) (tgk_consN (by decide) tgk_nil))) (wI_zipB ?_)
        repeat fail
        refine wE_lst (wA_star ?_)
        repeat fail
        refine ⟨_, rfl, ?_⟩
        repeat fail
        refine a_slAny (hx _) fun y hy => ?_
        rw [show ((1 : Int)) = ((1 : Nat) : Int) from rfl, cutD_from, ← List.map_drop] at hy
        refine ⟨_, hy, ?_⟩
        repeat fail
        refine a_ix (hx _) (i := 0) (d := .str z0) (atI_nat (j := 0) (by rw [List.getElem?_map, hz0]; rfl)) ?_
        repeat fail
        refine ⟨sD (zs.drop 1 ++ [z0]), by show _ = List.map Sl.d (List.map D.str (zs.drop 1 ++ [z0])); rw [List.map_append, List.map_append]; rfl, by rw [List.length_map, List.length_append, List.length_drop]; simp; omega, ?_⟩
        repeat fail
        refine ⟨_, _, _, _, rfl, hx _, .lst _, ?_⟩
        rw [zipD_strs, ← hnb]
        refine ⟨(nbrs zs).map fun e => (e.1, D.str e.2), fun a d => match d with | .str b => decide (b ∈ ws ys al rw' a) | _ => false, rfl, ?_, fun _ _ => ⟨hx _, .lst _⟩, fun a d had acc c => ?_, ?_⟩
        · rw [List.length_map]
          unfold nbrs
          rw [List.length_zip]
          omega
        · obtain ⟨e, he, ee⟩ := List.mem_map.mp had
          cases ee
          have hey : e.1 ∈ ys := by
            have : e.1 ∈ zs := (List.of_mem_zip (show (e.1, e.2) ∈ zs.zip _ from he)).1
            exact of_decide_eq_true (List.all_eq_true.mp hall e.1 this)
          repeat fail
          refine ⟨_, e.1, _, .dct _, rfl, lookD_in hey, ?_⟩
          refine ⟨_, e.2, .dct _, rfl, rfl, ?_⟩
          rw [lookD_some]
        · have e3 : ringB (ws ys al rw') ys zs = ((nbrs zs).map fun e => (e.1, D.str e.2)).all fun p => (fun (a : Str) (d : D) => match d with | .str b => decide (b ∈ ws ys al rw' a) | _ => false) p.1 p.2 := by
            unfold ringB
            rw [hb', decide_eq_true h2', Bool.true_and, Bool.true_and, List.all_map]
            rfl
          rw [e3] at p
          exact p
    · have e : ringB (ws ys al rw') ys zs = false := by
        unfold ringB
        have h3 : ¬ 2 ≤ zs.length := fun z => by
          have := of_decide_eq_true h2
          rw [List.length_map] at this
          omega
        rw [decide_eq_false h3, Bool.false_and, Bool.false_and]
      rw [e] at p
      refine ⟨fun _ => ?_, fun q => by cases q⟩
      repeat fail
      exact p
end
end Y

/-! k61: the law's helpers. -/
namespace Y
open PySem PySem.Spec PyProof.Rows L2
local macro_rules | `(tactic| fail) => `(tactic| ((first
  | with_reducible refine wS_seq ?_
  | with_reducible refine wS_ret ?_
  | with_reducible refine wS_set ?_
  | with_reducible refine wS_asgTup ?_
  | with_reducible refine wS_asg ?_
  | with_reducible refine wS_par ?_
  | with_reducible refine wS_drop ?_
  | with_reducible refine wS_dput ?_
  | with_reducible refine wS_fld ?_
  | with_reducible refine wS_next ?_
  | with_reducible refine wS_nextE ?_
  | with_reducible refine wS_brkE ?_
  | with_reducible refine wS_brk ?_
  | with_reducible refine wT_B ?_
  | with_reducible refine wT_Test ?_
  | with_reducible refine wT_not ?_
  | with_reducible refine wT_yes ?_
  | (with_reducible refine wE_var' ?_; refine ⟨_, rfl, ?_⟩)
  | with_reducible refine wE_int ?_
  | with_reducible refine wE_bl ?_
  | with_reducible refine wE_str ?_
  | with_reducible refine wE_non ?_
  | with_reducible refine wE_op ?_
  | with_reducible refine wE_un ?_
  | with_reducible refine wE_isi ?_
  | with_reducible refine wE_cbLen ?_
  | with_reducible refine wE_cbLenS ?_
  | with_reducible refine wE_cbLenD ?_
  | with_reducible refine wE_cbListOf ?_
  | with_reducible refine wE_cbTup ?_
  | with_reducible refine wE_isN ?_
  | with_reducible refine wE_notN ?_
  | with_reducible refine a_neg ?_
  | with_reducible refine wA_nil ?_
  | with_reducible refine wA_cons ?_
  | with_reducible refine wA_star ?_
  | with_reducible refine wE_sl ?_
  | with_reducible refine wO_none ?_
  | with_reducible refine wO_some ?_
  | with_reducible refine wE_notV ?_
  | with_reducible refine wE_dget ?_
  | with_reducible refine wE_din ?_
  | with_reducible refine wE_dnotin ?_
  | with_reducible refine wE_fld ?_
  | with_reducible refine wE_frz ?_
  | with_reducible refine wE_bmL ?_
  | with_reducible refine wE_call ?_
  | with_reducible refine wG_name ?_
  | with_reducible refine wG_tup rfl ?_
  | with_reducible refine wGs_consM ?_
  | with_reducible refine wGs_nilM ?_
  | with_reducible refine wGs_nil ?_
  | with_reducible refine wGs_cons ?_) <;> (try dsimp only)))

section
variable {P : Program} {w : World} {K : PySem.W.Frag} {mg : Str → Option Value} {base : Heap} {C I W : Addr} {t1 t2 : Tok}
/-- the owned object at l is changed, and new things may stand -/
theorem OwnOk.write' {H H' : Hp} {O : OO} (w : OwnOk K H O) {l : Nat} {a : Addr} {o q : OD} (h : look O l = some (a, o)) (e : oad a o = oad a q) (f : ∀ b u, b ∉ oad a o → H b = some u → H' b = some u) (hq : OdOk K (hid (setO O l q) H') H' a q) :
    OwnOk K H' (setO O l q) ∧ Same (hid O H) (hid (setO O l q) H') := by
  have hd := setO_dom h e
  have sub : ∀ b ∈ oad a o, b ∈ odom O := fun b hb => by
    obtain ⟨m, hm⟩ := look_mem h
    exact mem_odom hm b hb
  have sm : Same (hid O H) (hid (setO O l q) H') := fun c u hc => by
    obtain ⟨e1, e2⟩ := hid_some hc
    exact hid_of (f c u (fun z => e2 (sub c z)) e1) (by rw [hd]; exact e2)
  refine ⟨⟨by rw [hd]; exact w.nd, fun u hu => ?_⟩, sm⟩
  rcases setO_mem h u hu with ⟨e1, e2⟩ | ⟨h1, h2⟩
  · rw [e1, e2]; exact hq
  · refine (w.ok u h1).mono sm fun b hb => ?_
    obtain ⟨x, ex⟩ := (w.ok u h1).there b hb
    rw [ex]
    exact f b x (h2 w.nd b hb) ex
def Fdraw : FF := fun ss O P => ∃ (a cl : Addr) (n : Nat) (m : Int), ss = [.p 0 a, .d (.int m)] ∧ look O 0 = some (a, .sm cl n) ∧ 0 < m ∧ m ≤ 1000 ∧ n < 1000000 ∧ ∀ d : Nat, (d : Int) < m → P (.d (.int (d : Int))) (setO O 0 (.sm cl (n + 1)))
/-- the spring in the midst of a draw -/
structure SAt (H0 H : Hp) (a cl : Addr) (cells : List Int) (big cnt mix : Int) : Prop where
  ha : H a = some (.lst [.ref cl, .int big, .int cnt, .int mix])
  hc : H cl = some (.lst (cells.map V.int))
  keep : ∀ b u, b ∉ [a, cl] → H0 b = some u → H b = some u
  b0 : 0 ≤ big
  c0 : 0 ≤ cnt
  c1 : cnt ≤ 1000000
  m0 : 0 ≤ mix
  m1 : mix < 2147483647
  few : cells.length ≤ 63
section
variable {H0 H : Hp} {a cl : Addr} {cells : List Int} {big cnt mix : Int}
theorem SAt.put (S : SAt H0 H a cl cells big cnt mix) (n : a ≠ cl) {big' cnt' mix' : Int} (b0 : 0 ≤ big') (c0 : 0 ≤ cnt') (c1 : cnt' ≤ 1000000) (x0 : 0 ≤ mix') (x1 : mix' < 2147483647) : SAt H0 (upd H a (.lst [.ref cl, .int big', .int cnt', .int mix'])) a cl cells big' cnt' mix' :=
  ⟨upd_same, by rw [upd_ne n.symm]; exact S.hc, fun b u hb e => by rw [upd_ne (fun z => hb (by simp [z]))]; exact S.keep b u hb e, b0, c0, c1, x0, x1, S.few⟩
theorem SAt.pop {c : Int} {cs : List Int} (S : SAt H0 H a cl (c :: cs) big cnt mix) (n : a ≠ cl) : SAt H0 (upd H cl (.lst (cs.map V.int))) a cl cs big cnt mix :=
  ⟨by rw [upd_ne n]; exact S.ha, upd_same, fun b u hb e => by rw [upd_ne (fun z => hb (by simp [z]))]; exact S.keep b u hb e, S.b0, S.c0, S.c1, S.m0, S.m1, by have := S.few; simp at this; omega⟩
theorem SAt.new (S : SAt H0 H a cl cells big cnt mix) {p : Addr} {o : HO} (hp : H p = none) : SAt H0 (upd H p o) a cl cells big cnt mix :=
  ⟨by rw [upd_ne (ne_of_none S.ha hp)]; exact S.ha, by rw [upd_ne (ne_of_none S.hc hp)]; exact S.hc, fun b u hb e => by
    have := S.keep b u hb e
    rw [upd_ne (ne_of_none this hp)]; exact this, S.b0, S.c0, S.c1, S.m0, S.m1, S.few⟩
end
theorem raw_while {c : TT} {tb : TS} {D : Ends} {σ : L2.St} {H : Hp} (Pv : Nat → L2.St → Hp → Prop) (h0 : ∃ m, Pv m σ H) (Ev : L2.St → Hp → Prop)
    (hs : ∀ m σ H, Pv m σ H → ∀ X : L2.St → Hp → Prop, (∀ σ' H', Ev σ' H' → X σ' H') → c σ H fun b H1 => if b = true then ∃ N : L2.St → Hp → Prop, (∀ σ' H', N σ' H' → ∃ m', m' < m ∧ Pv m' σ' H') ∧ tb { D with nx := N, ct := N, bk := D.nx } σ H1 else X σ H1) (hd : ∀ σ H, Ev σ H → D.nx σ H) : tWhile c tb D σ H :=
  ⟨Pv, h0, fun m σ H p => hs m σ H p D.nx hd⟩
theorem seqIx {k n : Nat} (h : k < n) : seqIndex? (k : Int) n = some k := by
  unfold seqIndex?
  have e : (if (k : Int) < 0 then (k : Int) + n else (k : Int)) = k := by rw [if_neg (by omega)]
  simp only [e]
  rw [if_pos (by simp; omega)]
  simp
theorem fmod_lt {x m : Int} (hm : 0 < m) : 0 ≤ x.fmod m ∧ x.fmod m < m := ⟨Int.fmod_nonneg_of_pos x hm, Int.fmod_lt_of_pos x hm⟩
theorem int_list_ne : ∀ cells : List Int, PyData.eqvAll (cells.map PyData.int) [] = decide (cells = [])
  | [] => by simp [PyData.eqvAll]
  | _ :: _ => by simp [PyData.eqvAll]
theorem dpInts {H : Hp} : ∀ xs : List Int, DpAll K H (xs.map V.int) (xs.map PyData.int)
  | [] => .nil
  | x :: xs => .cons (.int x) (dpInts xs)
abbrev s__law_draw : Stmt := topS 38
theorem sc__law_draw : FnScope ["stream", "many", "cell", "digit", "mixed"] ["stream", "many"] (defScope s__law_draw) := ⟨rfl, rfl, rfl, by decide +kernel, rfl, by decide +kernel, by decide +kernel⟩
theorem ok_law_draw {f : Addr} {fd : FuncData} (Dd : Df K mg "_law_draw" "_law_draw" s__law_draw f fd ["stream", "many"]) (B : BT mg) :
    Fn P w K mg base 1 "_law_draw" f fd ["stream", "many"] (spA K 2 Fdraw) := by
  refine Dd.mk' (Dd.fn.ok sc__law_draw (fun vs H Q E h => spA_len h) (fun cdv A outer s H vs Q E hr h => ?_))
  have hu := hu_of hr
  have hu64 := hr.units
  obtain ⟨ss, O, P', hl, w0, hv, ⟨a, cl, n, m, rfl, hlk, m0, m1, hn, p⟩, q⟩ := h
  obtain ⟨v1, v2, rfl, h1, h2⟩ := sls2 hv
  have e1 : v1 = .ref a := h1
  subst e1
  cases h2
  obtain ⟨cells, big, cnt, mix, ha, hc, b0, c0, c1, x0, x1, few⟩ := w0.at' hlk
  have nac : a ≠ cl := fun e => by rw [e, hc] at ha; simp at ha; cases cells with
    | nil => simp at ha
    | cons c r => simp at ha
  refine ⟨_, (pss_cons (ps_asg (pe_op op_add (pe_ix (ixK K) (pv 0) pe_int (fun _ _ => rfl)) pe_int) (pg_sub (pv 0) pe_int set_list))
  (pss_cons (ps_while PassesOwn.never (PW.pt (pw_and (pt_cmpR op_eq (pe_ix (ixK K) (pv 0) pe_int (fun _ _ => rfl)) pe_int (nomark _)) (pw_and1 (pt_cmpR (neDK K hu64) (pe_ix (ixK K) (pv 0) pe_int (fun _ _ => rfl)) (pe_lst pa_nil) (nomark _))))) (pss_cons (ps_set (i := 2) sc__law_draw.nd rfl (Or.inl rfl) (bmK K PySem.F.plainAttrs_list PySem.F.slot_list_pop PySem.F.type_list_pop mt_popAt (pe_ix (ixK K) (pv 0) pe_int (fun _ _ => rfl)) (pa_cons pe_int pa_nil)))
  (pss_cons (ps_asg (pe_op op_modN (pe_callTy call_int1 (by rfl) B.int (by decide +kernel) (pa_cons (pe_op op_add (pe_op op_add (pe_op op_mul (pe_ix (ixK K) (pv 0) pe_int (fun _ _ => rfl)) pe_int) (pv 2)) pe_int) pa_nil)) pe_int) (pg_sub (pv 0) pe_int set_list))
  (pss_one (ps_asg (pe_ifExp (pt_cmpR op_ge (pv 2) (pe_op op_pow pe_int pe_int) (nomark _)) (pv 2) pe_int) (pg_sub (pv 0) pe_int set_list))))))
  (pss_cons (ps_if (pt_cmpR op_gt (pe_ix (ixK K) (pv 0) pe_int (fun _ _ => rfl)) pe_int (nomark _)) (pss_cons (ps_set (i := 3) sc__law_draw.nd rfl (Or.inl rfl) (pe_op op_modN (pe_callTy call_int1 (by rfl) B.int (by decide +kernel) (pa_cons (pe_ix (ixK K) (pv 0) pe_int (fun _ _ => rfl)) pa_nil)) (pv 1)))
  (pss_cons (ps_asg (pe_op op_fdivN (pe_ix (ixK K) (pv 0) pe_int (fun _ _ => rfl)) (pv 1)) (pg_sub (pv 0) pe_int set_list))
  (pss_one (ps_ret (pv 3))))) pss_nil)
  (pss_cons (ps_set (i := 4) sc__law_draw.nd rfl (Or.inl rfl) (pe_op op_modN (pe_callTy call_int1 (by rfl) B.int (by decide +kernel) (pa_cons (pe_op op_pow (pe_op op_add (pe_op op_add (pe_ix (ixK K) (pv 0) pe_int (fun _ _ => rfl)) (pe_op op_mul pe_int (pe_ix (ixK K) (pv 0) pe_int (fun _ _ => rfl)))) pe_int) pe_int) pa_nil)) pe_int))
  (pss_one (ps_ret (pe_op op_modN (pe_op op_modN (pe_callTy call_int1 (by rfl) B.int (by decide +kernel) (pa_cons (pe_op op_pow (pe_op op_add (pe_op op_add (pe_op op_mul (pv 4) pe_int) (pe_op op_mul pe_int (pe_ix (ixK K) (pv 0) pe_int (fun _ _ => rfl)))) pe_int) pe_int) pa_nil)) pe_int) (pv 1)))))))), ?_⟩
  have S0 : SAt H H a cl cells big cnt mix := ⟨ha, hc, fun _ _ _ e => e, b0, c0, by omega, x0, x1, few⟩
  -- the count
  refine ⟨_, rfl, .inl ⟨a, _, 2, .int cnt, rfl, rfl, SqL.of ha, rfl, ?_⟩⟩
  refine ⟨cnt, 1, rfl, rfl, ?_⟩
  refine ⟨_, rfl, a, _, 2, 2, rfl, rfl, ha, rfl, ?_⟩
  have S1 := S0.put nac (big' := big) (cnt' := cnt + 1) (mix' := mix) b0 (by omega) (by omega) x0 x1
  -- cells that are drawn
  refine raw_while (fun k σ H' => ∃ (cells : List Int) (big mix : Int) (x2 : Option V), σ = [some (.ref a), some (.int m), x2, none, none] ∧ SAt H H' a cl cells big (cnt + 1) mix ∧ k = cells.length) ⟨_, cells, big, mix, none, rfl, S1, rfl⟩
    (fun σ H' => ∃ (cells : List Int) (big mix : Int) (x2 : Option V), σ = [some (.ref a), some (.int m), x2, none, none] ∧ SAt H H' a cl cells big (cnt + 1) mix) ?_ ?_
  · rintro k σ H1 ⟨cells, big, mix, x2, rfl, S, rfl⟩ X hX
    have done : X [some (.ref a), some (.int m), x2, none, none] H1 := hX _ _ ⟨cells, big, mix, x2, rfl, S⟩
    refine ⟨_, rfl, .inl ⟨a, _, 1, .int big, rfl, rfl, SqL.of S.ha, rfl, rfl, _, rfl, ?_⟩⟩
    by_cases hb : big = 0
    · subst hb
      rw [decide_eq_true rfl]
      refine ⟨_, rfl, .inl ⟨a, _, 0, .ref cl, rfl, rfl, SqL.of S.ha, rfl, ?_⟩⟩
      refine ⟨by decide, fun p hp => ?_⟩
      have S2 := S.new (o := .lst []) hp
      refine ⟨.list (cells.map PyData.int), .list [], .lst (SqL.of S2.hc) (dpInts cells), .lst (SqL.of upd_same) .nil, PySem.W.shaped_ints cells, PySem.W.shaped_ints [], _, rfl, ?_⟩
      simp only [PyData.eqv, int_list_ne]
      cases cells with
      | nil =>
        simp only [decide_true, Bool.not_true]
        exact hX _ _ ⟨[], 0, mix, x2, rfl, S2⟩
      | cons c cs =>
        simp only [reduceCtorEq, decide_false, Bool.not_false, if_true]
        refine ⟨_, fun σ' H' z => z, ?_⟩
        refine ⟨_, rfl, .inl ⟨a, _, 0, .ref cl, rfl, rfl, SqL.of S2.ha, rfl, .inl ⟨rfl, _, SqL.of S2.hc⟩, cl, _, 0, 0, .int c, rfl, rfl, S2.hc, by decide, by decide, seqIx (k := 0) (by simp), rfl, ?_⟩⟩
        have S3 := S2.pop nac
        refine ⟨_, rfl, .inl ⟨a, _, 3, .int mix, rfl, rfl, SqL.of S3.ha, rfl, ?_⟩⟩
        have hm0 := S.m0
        have hm1 := S.m1
        refine ⟨mix, 8191, rfl, rfl, .inl ⟨by omega, by omega⟩, _, rfl, _, c, rfl, rfl, _, 3, rfl, rfl, .inl ⟨_, rfl, _, 2147483647, rfl, rfl, (show (2147483647 : Int) ≠ 0 by decide), ?_⟩⟩
        refine ⟨_, rfl, a, _, 3, 3, rfl, rfl, S3.ha, rfl, ?_⟩
        have f1 := fmod_lt (x := mix * 8191 + c + 3) (m := 2147483647) (by decide)
        have S4 := S3.put nac (big' := 0) (cnt' := cnt + 1) (mix' := (mix * 8191 + c + 3).fmod 2147483647) (by decide) (by omega) (by omega) f1.1 f1.2
        refine ⟨_, rfl, 10, 18, rfl, rfl, ⟨by decide, by decide, by decide⟩, c, _, rfl, rfl, _, rfl, ?_⟩
        by_cases hc18 : (10 : Int) ^ (18 : Int).toNat ≤ c
        · rw [decide_eq_true hc18]
          refine ⟨_, rfl, ?_⟩
          refine ⟨_, rfl, a, _, 1, 1, rfl, rfl, S4.ha, rfl, ?_⟩
          have h18 : (10 : Int) ^ (18 : Int).toNat = 1000000000000000000 := by decide
          exact ⟨cs.length, by simp, cs, c, _, _, rfl, S4.put nac (big' := c) (by omega) (by omega) (by omega) f1.1 f1.2, rfl⟩
        · rw [decide_eq_false hc18]
          refine ⟨_, rfl, a, _, 1, 1, rfl, rfl, S4.ha, rfl, ?_⟩
          exact ⟨cs.length, by simp, cs, 0, _, _, rfl, S4.put nac (big' := 0) (by omega) (by omega) (by omega) f1.1 f1.2, rfl⟩
    · have e : decide (V.int big = V.int 0) = false := by simpa using hb
      rw [e]
      exact done
  · -- what is given back
    have fin : ∀ (x : Int) (H1 : Hp) (cells : List Int) (big mix : Int), SAt H H1 a cl cells big (cnt + 1) mix → Q (.int (x.fmod m)) H1 := fun x H1 cells big mix S => by
      have f := fmod_lt (x := x) m0
      have st : Strm H1 a cl (n + 1) := ⟨cells, big, cnt + 1, mix, S.ha, S.hc, S.b0, S.c0, by omega, S.m0, S.m1, S.few⟩
      obtain ⟨w1, s1⟩ := w0.write' (q := .sm cl (n + 1)) hlk rfl (fun b u hb => S.keep b u hb) st
      have ed : ((x.fmod m).toNat : Int) = x.fmod m := by omega
      have := p (x.fmod m).toNat (by omega)
      rw [ed] at this
      exact q _ H1 _ _ this s1 w1 (.int _)
    rintro σ H1 ⟨cells, big, mix, x2, rfl, S⟩
    have hm0 := S.m0
    have hm1 := S.m1
    refine ⟨_, rfl, .inl ⟨a, _, 1, .int big, rfl, rfl, SqL.of S.ha, rfl, ?_⟩⟩
    refine ⟨big, 0, rfl, rfl, _, rfl, ?_⟩
    by_cases hb : 0 < big
    · rw [decide_eq_true hb]
      refine ⟨_, rfl, .inl ⟨a, _, 1, .int big, rfl, rfl, SqL.of S.ha, rfl, .inl ⟨_, rfl, _, rfl, _, m, rfl, rfl, by omega, ?_⟩⟩⟩
      refine ⟨_, rfl, .inl ⟨a, _, 1, .int big, rfl, rfl, SqL.of S.ha, rfl, _, rfl, big, m, rfl, rfl, ⟨by omega, by omega⟩, ?_⟩⟩
      refine ⟨_, rfl, a, _, 1, 1, rfl, rfl, S.ha, rfl, ?_⟩
      refine ⟨_, rfl, ?_⟩
      have hd : 0 ≤ big.fdiv m := Int.fdiv_nonneg (by omega) (by omega)
      exact fin _ _ cells _ _ (S.put nac (big' := big.fdiv m) hd (by omega) (by omega) hm0 hm1)
    · rw [decide_eq_false hb]
      refine ⟨_, rfl, .inl ⟨a, _, 3, .int mix, rfl, rfl, SqL.of S.ha, rfl, ?_⟩⟩
      refine ⟨_, rfl, .inl ⟨a, _, 2, .int (cnt + 1), rfl, rfl, SqL.of S.ha, rfl, 7919, cnt + 1, rfl, rfl, .inl ⟨by decide, by decide⟩, mix, _, rfl, rfl, _, 104729, rfl, rfl, ?_⟩⟩
      refine ⟨_, 5, rfl, rfl, ⟨by decide, by decide, by omega⟩, .inl ⟨_, rfl, _, 2147483629, rfl, rfl, (show (2147483629 : Int) ≠ 0 by decide), ?_⟩⟩
      have f1 := fmod_lt (x := (mix + 7919 * (cnt + 1) + 104729) ^ (5 : Int).toNat) (m := 2147483629) (by decide)
      generalize (mix + 7919 * (cnt + 1) + 104729) ^ (5 : Int).toNat = big5 at f1 ⊢
      refine ⟨_, rfl, _, 48271, rfl, rfl, .inl ⟨by omega, by omega⟩, ?_⟩
      refine ⟨_, rfl, .inl ⟨a, _, 2, .int (cnt + 1), rfl, rfl, SqL.of S.ha, rfl, 30011, cnt + 1, rfl, rfl, .inl ⟨by decide, by decide⟩, _, _, rfl, rfl, _, 29, rfl, rfl, ?_⟩⟩
      refine ⟨_, 3, rfl, rfl, ⟨by decide, by decide, by omega⟩, .inl ⟨_, rfl, _, 1000000007, rfl, rfl, (show (1000000007 : Int) ≠ 0 by decide), _, rfl, _, m, rfl, rfl, by omega, ?_⟩⟩
      exact fin _ _ cells _ _ S
end
end Y

/-! k61: the law's helpers that draw. -/
namespace Y
open PySem PySem.Spec PyProof.Rows L2
local macro_rules | `(tactic| fail) => `(tactic| ((first
  | with_reducible refine wS_seq ?_
  | with_reducible refine wS_ret ?_
  | with_reducible refine wS_set ?_
  | with_reducible refine wS_asgTup ?_
  | with_reducible refine wS_asg ?_
  | with_reducible refine wS_par ?_
  | with_reducible refine wS_drop ?_
  | with_reducible refine wS_dput ?_
  | with_reducible refine wS_fld ?_
  | with_reducible refine wS_next ?_
  | with_reducible refine wS_nextE ?_
  | with_reducible refine wS_brkE ?_
  | with_reducible refine wS_brk ?_
  | with_reducible refine wT_B ?_
  | with_reducible refine wT_Test ?_
  | with_reducible refine wT_not ?_
  | with_reducible refine wT_yes ?_
  | (with_reducible refine wE_var' ?_; refine ⟨_, rfl, ?_⟩)
  | with_reducible refine wE_int ?_
  | with_reducible refine wE_bl ?_
  | with_reducible refine wE_str ?_
  | with_reducible refine wE_non ?_
  | with_reducible refine wE_op ?_
  | with_reducible refine wE_un ?_
  | with_reducible refine wE_isi ?_
  | with_reducible refine wE_cbLen ?_
  | with_reducible refine wE_cbLenS ?_
  | with_reducible refine wE_cbLenD ?_
  | with_reducible refine wE_cbListOf ?_
  | with_reducible refine wE_cbTup ?_
  | with_reducible refine wE_isN ?_
  | with_reducible refine wE_notN ?_
  | with_reducible refine a_neg ?_
  | with_reducible refine wA_nil ?_
  | with_reducible refine wA_cons ?_
  | with_reducible refine wA_star ?_
  | with_reducible refine wE_sl ?_
  | with_reducible refine wO_none ?_
  | with_reducible refine wO_some ?_
  | with_reducible refine wE_notV ?_
  | with_reducible refine wE_dget ?_
  | with_reducible refine wE_din ?_
  | with_reducible refine wE_dnotin ?_
  | with_reducible refine wE_fld ?_
  | with_reducible refine wE_frz ?_
  | with_reducible refine wE_bmL ?_
  | with_reducible refine wE_call ?_
  | with_reducible refine wG_name ?_
  | with_reducible refine wG_tup rfl ?_
  | with_reducible refine wGs_consM ?_
  | with_reducible refine wGs_nilM ?_
  | with_reducible refine wGs_nil ?_
  | with_reducible refine wGs_cons ?_) <;> (try dsimp only)))

section
variable {P : Program} {w : World} {K : PySem.W.Frag} {mg : Str → Option Value} {base : Heap} {C I W : Addr} {t1 t2 : Tok}
theorem look_setO : ∀ {O : OO} {l : Nat} {a : Addr} {o q : OD}, look O l = some (a, o) → look (setO O l q) l = some (a, q)
  | [], l, a, o, q, h => by simp [look] at h
  | (m, b, u) :: r, l, a, o, q, h => by
    unfold look at h
    unfold setO
    by_cases e : m = l
    · rw [if_pos e] at h
      cases h
      rw [if_pos e]
      unfold look
      rw [if_pos e]
    · rw [if_neg e] at h
      rw [if_neg e]
      unfold look
      rw [if_neg e]
      exact look_setO h
theorem setO_setO : ∀ {O : OO} {l : Nat} {q q' : OD}, setO (setO O l q) l q' = setO O l q'
  | [], l, q, q' => rfl
  | (m, b, u) :: r, l, q, q' => by
    by_cases e : m = l
    · subst e
      show setO (if m = m then (m, b, q) :: r else (m, b, u) :: setO r m q) m q' = if m = m then (m, b, q') :: r else (m, b, u) :: setO r m q'
      rw [if_pos rfl, if_pos rfl]
      show (if m = m then (m, b, q') :: r else (m, b, q) :: setO r m q') = _
      rw [if_pos rfl]
    · show setO (if m = l then (m, b, q) :: r else (m, b, u) :: setO r l q) l q' = if m = l then (m, b, q') :: r else (m, b, u) :: setO r l q'
      rw [if_neg e, if_neg e]
      show (if m = l then (m, b, q') :: setO r l q else (m, b, u) :: setO (setO r l q) l q') = _
      rw [if_neg e, setO_setO]
def Fpick : FF := fun ss O P => ∃ (a cl : Addr) (n : Nat) (s : Sl) (ds : List D), ss = [.p 0 a, s] ∧ look O 0 = some (a, .sm cl n) ∧ n < 1000000 ∧ (∀ q, Seq (setO O 0 q) s ds) ∧ Seq O s ds ∧ 0 < ds.length ∧ ds.length ≤ 1000 ∧ ∀ d ∈ ds, P (.d d) (setO O 0 (.sm cl (n + 1)))
abbrev s__law_pick : Stmt := topS 39
theorem sc__law_pick : FnScope ["stream", "some"] ["stream", "some"] (defScope s__law_pick) := ⟨rfl, rfl, rfl, by decide +kernel, rfl, by decide +kernel, by decide +kernel⟩
theorem ok_law_pick {f f1 : Addr} {fd fd1 : FuncData} (Dd : Df K mg "_law_pick" "_law_pick" s__law_pick f fd ["stream", "some"]) (B : BT mg) (F__law_draw : Fn P w K mg base 1 "_law_draw" f1 fd1 ["stream", "many"] (spA K 2 Fdraw)) :
    Fn P w K mg base 2 "_law_pick" f fd ["stream", "some"] (spA K 2 Fpick) := by
  refine Dd.mk' (Dd.fn.ok sc__law_pick (fun vs H Q E h => spA_len h) (fun cdv A outer s H vs Q E hr h => ?_))
  refine ⟨_, (pss_one (ps_ret (pe_ix (ixK K) (pv 1) (pe_fn F__law_draw (hr.mono (by decide)) (by rfl) (pa_cons (pv 0) (pa_cons (pe_callB (lenSeqK K) (by rfl) B.len (by decide +kernel) (pa_cons (pv 1) pa_nil)) pa_nil))) (fun _ _ => rfl)))), wS_body h fun ss O P hl hf => ?_⟩
  obtain ⟨a, cl, n, s, ds, rfl, hlk, hn, hq, hq0, h0, h1, p⟩ := hf
  repeat fail
  refine a_lenSeq hq0 ?_
  repeat fail
  refine ⟨rfl, a, cl, n, _, rfl, hlk, by omega, by omega, hn, fun d hd => ?_⟩
  have hd' : d < ds.length := by omega
  exact a_ix (hq _) (atI_nat (List.getElem?_eq_getElem hd')) (p _ (List.getElem_mem hd'))
def Fmixed : FF := fun ss O P => ∃ (a cl : Addr) (n : Nat) (s : Sl) (ds : List D), ss = [.p 0 a, s] ∧ look O 0 = some (a, .sm cl n) ∧ n + ds.length < 1000000 ∧ Seq O s ds ∧ ds.length ≤ 1000 ∧ ∀ es : List D, es.Perm ds → P (.d (.lst es)) (setO O 0 (.sm cl (n + ds.length)))
abbrev s__law_mixed : Stmt := topS 40
theorem sc__law_mixed : FnScope ["stream", "some", "left", "k"] ["stream", "some"] (defScope s__law_mixed) := ⟨rfl, rfl, rfl, by decide +kernel, rfl, by decide +kernel, by decide +kernel⟩
theorem ok_law_mixed {f f1 : Addr} {fd fd1 : FuncData} (Dd : Df K mg "_law_mixed" "_law_mixed" s__law_mixed f fd ["stream", "some"]) (B : BT mg) (F__law_draw : Fn P w K mg base 1 "_law_draw" f1 fd1 ["stream", "many"] (spA K 2 Fdraw)) :
    Fn P w K mg base 2 "_law_mixed" f fd ["stream", "some"] (spA K 2 Fmixed) := by
  refine Dd.mk' (Dd.fn.ok sc__law_mixed (fun vs H Q E h => spA_len h) (fun cdv A outer s H vs Q E hr h => ?_))
  refine ⟨_, (pss_cons (ps_set (i := 2) sc__law_mixed.nd rfl (Or.inr rfl) (pe_callTy (listOfK K) (by rfl) B.list (by decide +kernel) (pa_cons (pv 1) pa_nil)))
  (pss_one (ps_ret (pe_lc (own := [("k", 3)]) rfl sc__law_mixed.nd (pi_range1 (by rfl) B.range (pa_cons (pe_callB (lenSeqK K) (by rfl) B.len (by decide +kernel) (pa_cons (pv 2) pa_nil)) pa_nil)) (blkOk_by (by first | decide +kernel | rfl)) (fun _ _ _ _ _ => (pg_name (i := 3) sc__law_mixed.nd rfl (by first | exact Or.inl rfl | exact Or.inr rfl))) (fun _ _ _ _ _ => pts_nil) (fun _ _ _ _ _ => (bmK K PySem.F.plainAttrs_list PySem.F.slot_list_pop PySem.F.type_list_pop mt_popAt (pv 2) (pa_cons (pe_fn F__law_draw (hr.mono (by decide)) (by rfl) (pa_cons (pv 0) (pa_cons (pe_callB (lenSeqK K) (by rfl) B.len (by decide +kernel) (pa_cons (pv 2) pa_nil)) pa_nil))) pa_nil))))))), wS_body h fun ss O P hl hf => ?_⟩
  obtain ⟨a, cl, n, s, ds, rfl, hlk, hn, hq0, h1, p⟩ := hf
  repeat fail
  refine a_listOfOwn 1 hq0 fun la => ?_
  fail
  refine wE_forget 1 (wE_lc (tgk_name (by decide)) (wI_rng1 ?_))
  repeat fail
  refine a_lenSeq (.own (l := 1) (a := la) rfl) ?_
  repeat fail
  refine ⟨_, rfl, by omega, by omega, fun i acc O' => ∃ rest, (acc ++ rest).Perm ds ∧ rest.length + i = ds.length ∧ O' = (1, la, .ol rest) :: setO O 0 (.sm cl (n + i)), ⟨ds, by simp, by simp, ?_⟩, ?_, ?_, ?_⟩
  · have e : setO O 0 (.sm cl (n + 0)) = O := by
      have : ∀ {O : OO} {l : Nat} {a : Addr} {o : OD}, look O l = some (a, o) → setO O l o = O := by
        intro O l a o h
        induction O with
        | nil => rfl
        | cons e r ih =>
          obtain ⟨m, b, u⟩ := e
          unfold look at h
          unfold setO
          by_cases e : m = l
          · rw [if_pos e] at h; cases h; rw [if_pos e]
          · rw [if_neg e] at h; rw [if_neg e, ih h]
      exact this hlk
    rw [e]
  · rintro i acc O' x ⟨rest, hp, hlen, rfl⟩
    refine ⟨trivial, ?_⟩
    have := hp.length_eq
    rw [List.length_append] at this
    omega
  · rintro i d acc O' x hd ⟨rest, hp, hlen, rfl⟩
    obtain ⟨hi, rfl⟩ := rngD_get hd
    rw [Int.toNat_natCast] at hi
    repeat fail
    refine ⟨fun _ => ?_, fun q => by cases q⟩
    repeat fail
    refine ⟨_, .own (l := 1) (a := la) rfl, ?_⟩
    repeat fail
    refine a_lenSeq (.own (l := 1) (a := la) (ds := rest) rfl) ?_
    repeat fail
    refine ⟨rfl, a, cl, n + i, _, rfl, look_setO hlk, by omega, by omega, by omega, fun k hk => ?_⟩
    have hk' : k < rest.length := by omega
    repeat fail
    have hat := List.getElem?_eq_getElem hk'
    refine a_popAt (l := 1) (a := la) (ds := rest) rfl (by omega) (by omega) (seqIx hk') hat ⟨_, _, rfl, rfl, rest.eraseIdx k, ?_, ?_, ?_⟩
    · rw [List.append_assoc]
      exact ((erase_perm hat).symm.append_left acc).trans hp
    · rw [List.length_eraseIdx, if_pos hk']; omega
    · show (1, la, OD.ol (rest.eraseIdx k)) :: setO (setO O 0 (.sm cl (n + i))) 0 (.sm cl (n + i + 1)) = _
      rw [setO_setO]
      rfl
  · rintro acc O' ⟨rest, hp, hlen, rfl⟩
    rw [rngD_len, Int.toNat_natCast] at hlen ⊢
    have hr : rest = [] := List.eq_nil_of_length_eq_zero (by omega)
    subst hr
    rw [List.append_nil] at hp
    exact p acc hp
theorem perm_map_inv {α β : Type} {g : α → β} {es l : List β} (h : es.Perm l) : ∀ ks : List α, l = ks.map g → ∃ js : List α, es = js.map g ∧ js.Perm ks := by
  induction h with
  | nil =>
    intro ks e
    cases ks with
    | nil => exact ⟨[], rfl, List.Perm.refl _⟩
    | cons k r => cases e
  | cons x _ ih =>
    intro ks e
    cases ks with
    | nil => cases e
    | cons k r =>
      rw [List.map_cons] at e
      injection e with e1 e2
      obtain ⟨js, h1, h2⟩ := ih r e2
      exact ⟨k :: js, by rw [List.map_cons, ← h1, e1], h2.cons k⟩
  | swap x y l =>
    intro ks e
    cases ks with
    | nil => cases e
    | cons k1 r =>
      cases r with
      | nil => cases e
      | cons k2 r =>
        rw [List.map_cons, List.map_cons] at e
        injection e with e1 e2
        injection e2 with e2 e3
        exact ⟨k2 :: k1 :: r, by rw [List.map_cons, List.map_cons, ← e1, ← e2, ← e3], List.Perm.swap _ _ _⟩
  | trans _ _ ih1 ih2 =>
    intro ks e
    obtain ⟨js, h1, h2⟩ := ih2 ks e
    obtain ⟨js', h3, h4⟩ := ih1 js h1
    exact ⟨js', h3, h4.trans h2⟩
def Floose0 : FF := fun ss O P => ∃ (s : Sl) (z : Str), ss = [s, .d (.str z)] ∧ P (.d (.str z)) O
abbrev s__law_loose : Stmt := topS 43
theorem sc__law_loose : FnScope ["stream", "thing", "found", "part"] ["stream", "thing"] (defScope s__law_loose) := ⟨rfl, rfl, rfl, by decide +kernel, rfl, by decide +kernel, by decide +kernel⟩
theorem ok_law_loose0 {f : Addr} {fd : FuncData} (Dd : Df K mg "_law_loose" "_law_loose" s__law_loose f fd ["stream", "thing"]) (B : BT mg) :
    Fn P w K mg base 1 "_law_loose" f fd ["stream", "thing"] (spA K 2 Floose0) := by
  refine Dd.mk' (Dd.fn.ok sc__law_loose (fun vs H Q E h => spA_len h) (fun cdv A outer s H vs Q E hr h => ?_))
  refine ⟨_, (pss_cons (ps_if (pt_not (pt_val (pe_callB (isiTK K) (by rfl) B.isinstance (by decide +kernel) (pa_cons (pv 1) (pa_cons (pe_tup (pa_cons (bty "list" (by rfl) B.list (by decide +kernel)) (pa_cons (bty "tuple" (by rfl) B.tuple (by decide +kernel)) pa_nil))) pa_nil))))) (pss_one (ps_ret (pv 1))) pss_nil)
  pss_never), wS_body h fun ss O P hl hf => ?_⟩
  obtain ⟨s, z, rfl, p⟩ := hf
  refine wS_seq (wS_ifT ?_)
  repeat fail
  refine wE_isiT (ns := ["list", "tuple"]) ?_ (by decide)
  repeat fail
  refine ⟨_, _, false, rfl, rfl, by decide, _, rfl, rfl, ?_⟩
  repeat fail
  exact p
def Floose : FF := fun ss O P => ∃ (a cl : Addr) (n : Nat) (row : List Str), ss = [.p 0 a, .d (.lst (sD row))] ∧ look O 0 = some (a, .sm cl n) ∧ n < 1000000 ∧ row.length ≤ 1000 ∧ ∀ d, Loose d row → P (.d d) (setO O 0 (.sm cl (n + 1)))
theorem ok_law_loose {f f1 : Addr} {fd fd1 : FuncData} (Dd : Df K mg "_law_loose" "_law_loose" s__law_loose f fd ["stream", "thing"]) (B : BT mg) (F__law_loose : Fn P w K mg base 1 "_law_loose" f fd ["stream", "thing"] (spA K 2 Floose0)) (F__law_draw : Fn P w K mg base 1 "_law_draw" f1 fd1 ["stream", "many"] (spA K 2 Fdraw)) :
    Fn P w K mg base 2 "_law_loose" f fd ["stream", "thing"] (spA K 2 Floose) := by
  refine Dd.mk' (Dd.fn.ok sc__law_loose (fun vs H Q E h => spA_len h) (fun cdv A outer s H vs Q E hr h => ?_))
  refine ⟨_, (pss_cons (ps_if (pt_not (pt_val (pe_callB (isiTK K) (by rfl) B.isinstance (by decide +kernel) (pa_cons (pv 1) (pa_cons (pe_tup (pa_cons (bty "list" (by rfl) B.list (by decide +kernel)) (pa_cons (bty "tuple" (by rfl) B.tuple (by decide +kernel)) pa_nil))) pa_nil))))) (pss_one (ps_ret (pv 1))) pss_nil)
  (pss_cons (ps_setLc (i := 2) (own := [("part", 3)]) rfl sc__law_loose.nd rfl rfl (sw_true rfl rfl rfl (by decide +kernel)) (seqK K (pv 1)) (blkOk_by (by first | decide +kernel | rfl)) (fun _ _ _ _ _ => (pg_name (i := 3) sc__law_loose.nd rfl (by first | exact Or.inl rfl | exact Or.inr rfl))) (fun _ _ _ _ _ => pts_nil) (fun _ _ _ _ _ => (pe_fn F__law_loose (hr.mono (by decide)) (by rfl) (pa_cons (pv 0) (pa_cons (pv 3) pa_nil)))))
  (pss_one (ps_ret (pe_ifExp (pt_cmpR op_eq (pe_fn F__law_draw (hr.mono (by decide)) (by rfl) (pa_cons (pv 0) (pa_cons pe_int pa_nil))) pe_int (nomark _)) (pv 2) (pe_callTy (tupRK K) (by rfl) B.tuple (by decide +kernel) (pa_cons (pv 2) pa_nil))))))), wS_body h fun ss O P hl hf => ?_⟩
  obtain ⟨a, cl, n, row, rfl, hlk, hn, hrow, p⟩ := hf
  refine wS_seq (wS_ifF ?_)
  repeat fail
  refine wE_isiT (ns := ["list", "tuple"]) ?_ (by decide)
  repeat fail
  refine ⟨_, _, true, rfl, rfl, by decide, _, rfl, rfl, ?_⟩
  repeat fail
  refine wE_lcS (tgk_name (by decide)) (wI_seq ?_)
  repeat fail
  refine ⟨_, .lst _, row, fun z => some (.str z), rfl, by omega, fun _ _ => .lst _, fun z hz acc c => ?_, ?_⟩
  · repeat fail
    refine ⟨fun _ => ?_, fun q => by cases q⟩
    repeat fail
    exact ⟨rfl, _, z, rfl, rfl, _, rfl, rfl⟩
  · rw [filterMap_some]
    repeat fail
    refine wE_if ?_
    repeat fail
    refine ⟨rfl, a, cl, n, 3, rfl, hlk, by decide, by decide, hn, fun d hd => ?_⟩
    repeat fail
    refine a_eqInt ⟨_, rfl, fun _ => ?_, fun _ => ?_⟩
    · repeat fail
      exact p _ (.inl rfl)
    · repeat fail
      exact a_tuple (.lst _) (p _ (.inr rfl))
def Fturned : FF := fun ss O P => ∃ (a cl : Addr) (n : Nat) (ks : List Str) (f : Str → D), ss = [.p 0 a, .d (.dct (funD f ks))] ∧ look O 0 = some (a, .sm cl n) ∧ n + ks.length < 1000000 ∧ ks.length ≤ 1000 ∧ ks.Nodup ∧ ∀ js : List Str, js.Perm ks → P (.d (.dct (funD f js))) (setO O 0 (.sm cl (n + ks.length)))
theorem items_funD (f : Str → D) (ks : List Str) : itemsD (funD f ks) = ks.map fun p => D.tup [.str p, f p] := by simp [itemsD, funD]
abbrev s__law_turned : Stmt := topS 44
theorem sc__law_turned : FnScope ["stream", "given"] ["stream", "given"] (defScope s__law_turned) := ⟨rfl, rfl, rfl, by decide +kernel, rfl, by decide +kernel, by decide +kernel⟩
theorem ok_law_turned {f f1 : Addr} {fd fd1 : FuncData} (Dd : Df K mg "_law_turned" "_law_turned" s__law_turned f fd ["stream", "given"]) (B : BT mg) (F__law_mixed : Fn P w K mg base 2 "_law_mixed" f1 fd1 ["stream", "some"] (spA K 2 Fmixed)) :
    Fn P w K mg base 3 "_law_turned" f fd ["stream", "given"] (spA K 2 Fturned) := by
  refine Dd.mk' (Dd.fn.ok sc__law_turned (fun vs H Q E h => spA_len h) (fun cdv A outer s H vs Q E hr h => ?_))
  refine ⟨_, (pss_one (ps_ret (pe_frz (pe_callTy (dPK K rfl) (by rfl) B.dict (by decide +kernel) (pa_cons (pe_fn F__law_mixed (hr.mono (by decide)) (by rfl) (pa_cons (pv 0) (pa_cons (pe_itemsR rfl (pv 1) (by rfl) B.list) pa_nil))) pa_nil))))), wS_body h fun ss O P hl hf => ?_⟩
  obtain ⟨a, cl, n, ks, g, rfl, hlk, hn, hk, nd, p⟩ := hf
  repeat fail
  refine wE_cb ?_
  repeat fail
  refine wE_itemsR ?_
  repeat fail
  refine ⟨_, .dct _, ?_⟩
  repeat fail
  refine ⟨rfl, a, cl, n, _, _, rfl, hlk, ?_, .lst _, ?_, fun es hes => ?_⟩
  · rw [items_funD, List.length_map]; exact hn
  · rw [items_funD, List.length_map]; exact hk
  · rw [items_funD] at hes
    obtain ⟨js, rfl, hjs⟩ := perm_map_inv hes ks rfl
    repeat fail
    refine a_dictP 2 (kvs := funD g js) (by rw [← items_funD]; exact .lst _) fun c => ⟨2, c, _, rfl, rfl, ?_⟩
    rw [putAll_funD (hjs.nodup_iff.mpr nd), items_funD, List.length_map]
    exact p js hjs
/-! ### a stock by the law -/
def lstS (rw : Str → List Str) (p : Str) : D := .lst (sD (rw p))
def Fq_stock (C : Addr) : FF := fun ss O P => ∃ (a cl : Addr) (n : Nat) (ps ts : List Str) (rw : Str → List Str), ss = [.p 0 a, .d (.lst (sD ps)), .d (.lst (sD ts)), .d (.dct (funD (lstS rw) ps))] ∧ look O 0 = some (a, .sm cl n) ∧ n + 100 < 1000000 ∧ NamesOk ps ∧ NamesOk ts ∧ ps.length = ts.length ∧ RowsOk ps ts rw ∧
  ∀ ys, StockOk ps ts ys rw → P (.d (stockD C ps ts ys rw)) (setO O 0 (.sm cl (n + 2 * ps.length + 2)))
abbrev s__law_q_stock : Stmt := topS 36
theorem sc__law_q_stock : FnScope ["stream", "people", "things", "rows", "wishes", "person"] ["stream", "people", "things", "rows"] (defScope s__law_q_stock) := ⟨rfl, rfl, rfl, by decide +kernel, rfl, by decide +kernel, by decide +kernel⟩
theorem ok_law_q_stock {f f1 f2 : Addr} {fd fd1 fd2 fdS : FuncData} (Dd : Df K mg "_law_q_stock" "_law_q_stock" s__law_q_stock f fd ["stream", "people", "things", "rows"]) (B : BT mg) (G : GT K mg C I W t1 t2) (F__law_mixed : Fn P w K mg base 2 "_law_mixed" f1 fd1 ["stream", "some"] (spA K 2 Fmixed)) (F__law_loose : Fn P w K mg base 2 "_law_loose" f2 fd2 ["stream", "thing"] (spA K 2 Floose))
    (FS_Stock : FnOk P w K mg base CX0 4 I fdS ["self", "people", "things", "wishes"] (spA K 4 (FStock C))) (bS_Stock : Binds K fdS ["self", "people", "things", "wishes"] []) :
    Fn P w K mg base 6 "_law_q_stock" f fd ["stream", "people", "things", "rows"] (spA K 4 (Fq_stock C)) := by
  refine Dd.mk' (Dd.fn.ok sc__law_q_stock (fun vs H Q E h => spA_len h) (fun cdv A outer s H vs Q E hr h => ?_))
  have hu := hu_of hr
  have hr2 := hr
  refine ⟨_, (pss_cons (ps_set (i := 4) sc__law_q_stock.nd rfl (Or.inl rfl) (pe_frz (pe_callTy (dPK K rfl) (by rfl) B.dict (by decide +kernel) (pa_cons (pe_lc (own := [("person", 5)]) rfl sc__law_q_stock.nd (seqK K (pe_fn F__law_mixed (hr.mono (by decide)) (by rfl) (pa_cons (pv 0) (pa_cons (pv 1) pa_nil)))) (blkOk_by (by first | decide +kernel | rfl)) (fun _ _ _ _ _ => (pg_name (i := 5) sc__law_q_stock.nd rfl (by first | exact Or.inl rfl | exact Or.inr rfl))) (fun _ _ _ _ _ => pts_nil) (fun _ _ _ _ _ => (pe_tup (pa_cons (pv 5) (pa_cons (pe_fn F__law_loose (hr.mono (by decide)) (by rfl) (pa_cons (pv 0) (pa_cons (pe_callTy (listOfK K) (by rfl) B.list (by decide +kernel) (pa_cons (pe_dget hu (pv 3) (pv 5) (fun _ _ => rfl)) pa_nil)) pa_nil))) pa_nil))))) pa_nil))))
  (pss_one (ps_ret (pe_make G.MStock FS_Stock hr2 (by rfl) G.Stock bS_Stock .nil pass0 (pa_cons (pe_fn F__law_loose (hr.mono (by decide)) (by rfl) (pa_cons (pv 0) (pa_cons (pe_callTy (listOfK K) (by rfl) B.list (by decide +kernel) (pa_cons (pv 1) pa_nil)) pa_nil))) (pa_cons (pe_fn F__law_loose (hr.mono (by decide)) (by rfl) (pa_cons (pv 0) (pa_cons (pe_callTy (listOfK K) (by rfl) B.list (by decide +kernel) (pa_cons (pv 2) pa_nil)) pa_nil))) (pa_cons (pv 4) pa_nil))))))), wS_body h fun ss O P hl hf => ?_⟩
  obtain ⟨a, cl, n, ps, ts, rw', rfl, hlk, hn, hps, hts, hlen, hrw, p⟩ := hf
  have hpl := hps.few
  repeat fail
  refine wE_cb (wA_cons (wE_lc (tgk_name (by decide)) (wI_seq ?_)))
  repeat fail
  refine ⟨rfl, a, cl, n, _, _, rfl, hlk, by rw [List.length_map]; omega, .lst _, by rw [List.length_map]; omega, fun es hes => ?_⟩
  obtain ⟨qs, rfl, hqs⟩ := perm_map_inv hes ps rfl
  rw [List.length_map]
  have ndq : qs.Nodup := hqs.nodup_iff.mpr hps.nd
  have hql : qs.length = ps.length := hqs.length_eq
  have hlk1 : look (setO O 0 (.sm cl (n + ps.length))) 0 = some (a, .sm cl (n + ps.length)) := look_setO hlk
  refine ⟨_, .lst _, fun i acc O' => ∃ wf : Str → D, (∀ p ∈ qs.take i, Loose (wf p) (rw' p)) ∧ acc = itemsD (funD wf (qs.take i)) ∧ O' = setO O 0 (.sm cl (n + ps.length + i)), ⟨fun _ => .non, by simp, by simp [funD, itemsD], by simp⟩, ?_, ?_, ?_⟩
  · rintro i acc O' x ⟨wf, h1, rfl, rfl⟩
    refine ⟨.lst _, ?_⟩
    rw [items_funD, List.length_map, List.length_take]
    omega
  · rintro i d acc O' x hd ⟨wf, h1, rfl, rfl⟩
    obtain ⟨z, hz, hzi, rfl⟩ := mem_of_strs hd
    have hzp : z ∈ ps := hqs.mem_iff.mp hz
    have hno := not_mem_take ndq hzi
    have hil := (List.getElem?_eq_some_iff.mp hzi).1
    have hrl : (rw' z).length ≤ 1000 := by
      rw [(hrw.perm z hzp).length_eq]
      have := hts.few
      omega
    repeat fail
    refine ⟨fun _ => ?_, fun q => by cases q⟩
    refine wE_tup ?_
    repeat fail
    refine ⟨_, z, _, .dct _, rfl, lookD_in hzp, ?_⟩
    repeat fail
    refine a_listOf (.lst _) ?_
    repeat fail
    refine ⟨rfl, a, cl, n + ps.length + i, rw' z, rfl, look_setO hlk, by omega, hrl, fun dd hdd => ?_⟩
    repeat fail
    refine ⟨[.str z, dd], rfl, (by show 2 ≤ 1000; decide), _, _, rfl, rfl, fun x => if x = z then dd else wf x, fun x hx => ?_, ?_, ?_⟩
    · rw [take_next hzi] at hx
      rcases List.mem_append.mp hx with hx | hx
      · have hne : ¬ x = z := fun e => hno (by rw [← e]; exact hx)
        show Loose (if x = z then dd else wf x) _
        rw [if_neg hne]; exact h1 x hx
      · simp at hx; subst hx
        show Loose (if x = x then dd else wf x) _
        rw [if_pos rfl]; exact hdd
    · rw [take_next hzi, items_funD, items_funD, List.map_append]
      congr 1
      · exact List.map_congr_left fun x hx => by
          have hne : ¬ x = z := fun e => hno (by rw [← e]; exact hx)
          show _ = D.tup [D.str x, if x = z then dd else wf x]
          rw [if_neg hne]
      · simp
    · show setO (setO O 0 (.sm cl (n + ps.length + i))) 0 (.sm cl (n + ps.length + i + 1)) = _
      rw [setO_setO]; rfl
  · rintro acc O' ⟨wf, h1, rfl, rfl⟩
    rw [List.length_map, List.take_length] at *
    repeat fail
    refine a_dictP 2 (kvs := funD wf qs) (.lst _) fun c => ⟨2, c, _, rfl, rfl, ?_⟩
    rw [putAll_funD ndq]
    show wS K _ _ (setO O 0 (.sm cl (n + ps.length + qs.length))) _
    refine wS_ret (wE_make ?_)
    repeat fail
    refine a_listOf (.lst _) ?_
    repeat fail
    refine ⟨rfl, a, cl, _, ps, rfl, look_setO hlk, by omega, by omega, fun xp hxp => ?_⟩
    repeat fail
    refine a_listOf (.lst _) ?_
    repeat fail
    rw [setO_setO]
    refine ⟨rfl, a, cl, _, ts, rfl, look_setO hlk, by omega, by have := hts.few; omega, fun xt hxt => ?_⟩
    rw [setO_setO]
    repeat fail
    intro x dx
    refine ⟨rfl, x, dx, xp, xt, ps, ts, qs, wf, rw', _, rfl, rfl, hxp.seq, hxt.seq, hps, hts, hlen, hqs, hrw, fun p hp => h1 p (hqs.mem_iff.mpr hp), fun ys hys => ⟨rfl, dx, _, rfl, ?_⟩⟩
    have e : n + ps.length + qs.length + 1 + 1 = n + 2 * ps.length + 2 := by omega
    show P (.d (.obj C (stockF ps ts ys rw'))) (setO O 0 (.sm cl (n + ps.length + qs.length + 1 + 1)))
    rw [e]
    exact p ys hys
end
end Y

/-! k61: names; what the law compares by. -/
namespace Y
open PySem PySem.Spec PyProof.Rows L2
local macro_rules | `(tactic| fail) => `(tactic| ((first
  | with_reducible refine wS_seq ?_
  | with_reducible refine wS_ret ?_
  | with_reducible refine wS_set ?_
  | with_reducible refine wS_asgTup ?_
  | with_reducible refine wS_asg ?_
  | with_reducible refine wS_par ?_
  | with_reducible refine wS_drop ?_
  | with_reducible refine wS_dput ?_
  | with_reducible refine wS_fld ?_
  | with_reducible refine wS_next ?_
  | with_reducible refine wS_nextE ?_
  | with_reducible refine wS_brkE ?_
  | with_reducible refine wS_brk ?_
  | with_reducible refine wT_B ?_
  | with_reducible refine wT_Test ?_
  | with_reducible refine wT_not ?_
  | with_reducible refine wT_yes ?_
  | (with_reducible refine wE_var' ?_; refine ⟨_, rfl, ?_⟩)
  | with_reducible refine wE_int ?_
  | with_reducible refine wE_bl ?_
  | with_reducible refine wE_str ?_
  | with_reducible refine wE_non ?_
  | with_reducible refine wE_op ?_
  | with_reducible refine wE_un ?_
  | with_reducible refine wE_isi ?_
  | with_reducible refine wE_cbLen ?_
  | with_reducible refine wE_cbLenS ?_
  | with_reducible refine wE_cbLenD ?_
  | with_reducible refine wE_cbListOf ?_
  | with_reducible refine wE_cbTup ?_
  | with_reducible refine wE_isN ?_
  | with_reducible refine wE_notN ?_
  | with_reducible refine a_neg ?_
  | with_reducible refine wA_nil ?_
  | with_reducible refine wA_cons ?_
  | with_reducible refine wA_star ?_
  | with_reducible refine wE_sl ?_
  | with_reducible refine wO_none ?_
  | with_reducible refine wO_some ?_
  | with_reducible refine wE_notV ?_
  | with_reducible refine wE_dget ?_
  | with_reducible refine wE_din ?_
  | with_reducible refine wE_dnotin ?_
  | with_reducible refine wE_fld ?_
  | with_reducible refine wE_frz ?_
  | with_reducible refine wE_bmL ?_
  | with_reducible refine wE_call ?_
  | with_reducible refine wG_name ?_
  | with_reducible refine wG_tup rfl ?_
  | with_reducible refine wGs_consM ?_
  | with_reducible refine wGs_nilM ?_
  | with_reducible refine wGs_nil ?_
  | with_reducible refine wGs_cons ?_) <;> (try dsimp only)))

section
variable {P : Program} {w : World} {K : PySem.W.Frag} {mg : Str → Option Value} {base : Heap} {C I W : Addr} {t1 t2 : Tok}
/-! ### names -/
def nameB (z : Str) : Bool := decide (0 < z.length) && decide (z.length ≤ 8) && (match z.cps.toList with | c :: _ => decide (c ∈ zSMALL.cps.toList) | [] => false) && decide (z ∉ zWORDS) && (z.cps.toList.all fun c => decide (c ∈ (zSMALL ++ zFIGURES).cps.toList)) && PyData.strOk z
theorem nameB_ok {z : Str} (h : nameB z = true) : NameOk z := by
  unfold nameB at h
  simp only [Bool.and_eq_true, decide_eq_true_eq, List.all_eq_true] at h
  obtain ⟨⟨⟨⟨⟨h1, h2⟩, h3⟩, h4⟩, h5⟩, h6⟩ := h
  refine ⟨h1, h2, ?_, h4, h5, h6⟩
  cases e : z.cps.toList with
  | nil => rw [e] at h3; cases h3
  | cons c r =>
    rw [e] at h3
    exact ⟨c, atI_zero, by simpa using h3⟩
def pool : List Str := ["ann", "bo", "cy", "an", "a", "b", "x9", "n0", "annabel", "eightsgn", "zz9", "rules", "persona", "r"]
def pN (k : Nat) : Str := ("p" : Str) ++ toString ((k : Nat) : Int)
theorem pool_ok : ∀ z ∈ pool, NameOk z := fun z hz => nameB_ok (List.all_eq_true.mp (show pool.all nameB = true by decide +kernel) z hz)
theorem pN_ok {k : Nat} (h : k ≤ 11) : NameOk (pN k) := nameB_ok (List.all_eq_true.mp (show (List.range 12).all (fun k => nameB (pN k)) = true by decide +kernel) k (List.mem_range.mpr (by omega)))
theorem pN_nd : ((List.range 12).map pN).Nodup := by decide +kernel
theorem pN_few {k : Nat} {xs : List Str} (hk : k ≤ 12) (h : ∀ j, j < k → pN j ∈ xs) : k ≤ xs.length := by
  have e : ((List.range 12).map pN).take k = (List.range k).map pN := by
    rw [← List.map_take, List.take_range, Nat.min_eq_left hk]
  have nd : ((List.range k).map pN).Nodup := by rw [← e]; exact (List.take_sublist _ _).nodup pN_nd
  have := List.Nodup.length_le_of_subset nd (fun z hz => by
    obtain ⟨j, hj, rfl⟩ := List.mem_map.mp hz
    exact h j (List.mem_range.mp hj))
  simpa using this
def Fa_name : FF := fun ss O P => ∃ (a cl : Addr) (n : Nat) (s : Sl) (xs : List Str), ss = [.p 0 a, s] ∧ look O 0 = some (a, .sm cl n) ∧ n < 1000000 ∧ (∀ q, Seq (setO O 0 q) s (sD xs)) ∧ xs.length ≤ 10 ∧ ∀ z, NameOk z → z ∉ xs → P (.d (.str z)) (setO O 0 (.sm cl (n + 1)))
abbrev s__law_a_name : Stmt := topS 34
theorem sc__law_a_name : FnScope ["stream", "taken", "some", "name", "number"] ["stream", "taken"] (defScope s__law_a_name) := ⟨rfl, rfl, rfl, by decide +kernel, rfl, by decide +kernel, by decide +kernel⟩
theorem ok_law_a_name {f f1 : Addr} {fd fd1 : FuncData} (Dd : Df K mg "_law_a_name" "_law_a_name" s__law_a_name f fd ["stream", "taken"]) (B : BT mg) (F__law_pick : Fn P w K mg base 2 "_law_pick" f1 fd1 ["stream", "some"] (spA K 2 Fpick)) :
    Fn P w K mg base 3 "_law_a_name" f fd ["stream", "taken"] (spA K 2 Fa_name) := by
  refine Dd.mk' (Dd.fn.ok sc__law_a_name (fun vs H Q E h => spA_len h) (fun cdv A outer s H vs Q E hr h => ?_))
  refine ⟨_, (pss_cons (ps_set (i := 2) sc__law_a_name.nd rfl (Or.inl rfl) (pe_lst (pa_cons pe_str (pa_cons pe_str (pa_cons pe_str (pa_cons pe_str (pa_cons pe_str (pa_cons pe_str (pa_cons pe_str (pa_cons pe_str (pa_cons pe_str (pa_cons pe_str (pa_cons pe_str (pa_cons pe_str (pa_cons pe_str (pa_cons pe_str pa_nil))))))))))))))))
  (pss_cons (ps_par (i := 3) (j := 4) rfl sc__law_a_name.nd rfl rfl (by decide) rfl rfl (pa_cons (pe_fn F__law_pick (hr.mono (by decide)) (by rfl) (pa_cons (pv 0) (pa_cons (pv 2) pa_nil))) (pa_cons pe_int pa_nil)) (by rfl))
  (pss_cons (ps_while PassesOwn.never (pt_cmpR (inK K) (pv 3) (pv 1) (by rfl)) (pss_one (ps_par (i := 3) (j := 4) rfl sc__law_a_name.nd rfl rfl (by decide) rfl rfl (pa_cons (pe_op op_add_str pe_str (pe_callTy call_str_int (by rfl) B.str (by decide +kernel) (pa_cons (pv 4) pa_nil))) (pa_cons (pe_op op_add (pv 4) pe_int) pa_nil)) (by rfl))))
  (pss_one (ps_ret (pv 3)))))), wS_body h fun ss O P hl hf => ?_⟩
  obtain ⟨a, cl, n, s, xs, rfl, hlk, hn, hq, hx, p⟩ := hf
  repeat fail
  refine wE_lst ?_
  repeat fail
  refine ⟨sD pool, rfl, (by show 14 ≤ 1000; decide), ?_⟩
  repeat fail
  refine ⟨rfl, a, cl, n, _, sD pool, rfl, hlk, hn, fun q => .lst _, .lst _, by show 0 < 14; decide, (by show 14 ≤ 1000; decide), fun d hd => ?_⟩
  obtain ⟨z, hz, rfl⟩ := List.mem_map.mp hd
  repeat fail
  refine ⟨_, _, rfl, ?_⟩
  repeat fail
  refine wS_while (fun m Γ' O' => ∃ (nm : Str) (k : Nat), Γ' = [some (.p 0 a), some s, some (.d (.lst (sD pool))), some (.d (.str nm)), some (.d (.int (k : Int)))] ∧ O' = setO O 0 (.sm cl (n + 1)) ∧ m = 20 - k ∧ k ≤ 12 ∧ NameOk nm ∧ (k = 0 ∨ ∃ j, k = j + 1 ∧ nm = pN j ∧ ∀ i, i < j → pN i ∈ xs)) ⟨_, z, 0, rfl, rfl, rfl, by omega, pool_ok z hz, .inl rfl⟩ ?_
  rintro m Γ' O' ⟨nm, k, rfl, rfl, rfl, hk, ok, hj⟩
  repeat fail
  refine a_inStrs (hq _) ⟨_, rfl, fun hin => ?_, fun hin => ?_⟩
  · have hin' : nm ∈ xs := of_decide_eq_true hin
    have hall : ∀ i, i < k → pN i ∈ xs := fun i hi => by
      rcases hj with rfl | ⟨j, rfl, rfl, hj⟩
      · omega
      · by_cases e : i < j
        · exact hj i e
        · have : i = j := by omega
          rw [this]; exact hin'
    have hk10 : k ≤ 10 := Nat.le_trans (pN_few hk hall) hx
    repeat fail
    refine wE_cb ?_
    repeat fail
    refine a_strInt ?_ (a_addS ?_ ?_)
    · have : (k : Int).natAbs = k := by simp
      rw [this]
      exact Nat.lt_of_le_of_lt (Nat.log2_le_self k) (by omega)
    · have := (pN_ok (k := k) (by omega)).l8
      have e : (pN k).length = ("p" : Str).length + (toString (k : Int) : Str).length := PySem.Str.length_append _ _
      rw [e] at this
      exact Nat.le_trans this (by decide)
    · repeat fail
      refine a_add ?_
      repeat fail
      refine ⟨_, _, rfl, 20 - (k + 1), by omega, pN k, k + 1, ?_, rfl, rfl, by omega, pN_ok (by omega), .inr ⟨k, rfl, rfl, hall⟩⟩
      rfl
  · have hin' : nm ∉ xs := of_decide_eq_false hin
    repeat fail
    exact p nm ok hin'
theorem setO_self {O : OO} {l : Nat} {a : Addr} {o : OD} (h : look O l = some (a, o)) : setO O l o = O := by
  induction O with
  | nil => rfl
  | cons e r ih =>
    obtain ⟨m, b, u⟩ := e
    unfold look at h
    unfold setO
    by_cases e : m = l
    · rw [if_pos e] at h; cases h; rw [if_pos e]
    · rw [if_neg e] at h; rw [if_neg e, ih h]
def Fa_names : FF := fun ss O P => ∃ (a cl : Addr) (n k : Nat), ss = [.p 0 a, .d (.int (k : Int))] ∧ look O 0 = some (a, .sm cl n) ∧ n + k < 1000000 ∧ k ≤ 10 ∧ ∀ xs : List Str, xs.length = k → NamesOk xs → P (.d (.lst (sD xs))) (setO O 0 (.sm cl (n + k)))
abbrev s__law_a_names : Stmt := topS 35
theorem sc__law_a_names : FnScope ["stream", "many", "found", "k"] ["stream", "many"] (defScope s__law_a_names) := ⟨rfl, rfl, rfl, by decide +kernel, rfl, by decide +kernel, by decide +kernel⟩
theorem ok_law_a_names {f f1 : Addr} {fd fd1 : FuncData} (Dd : Df K mg "_law_a_names" "_law_a_names" s__law_a_names f fd ["stream", "many"]) (B : BT mg) (F__law_a_name : Fn P w K mg base 3 "_law_a_name" f1 fd1 ["stream", "taken"] (spA K 2 Fa_name)) :
    Fn P w K mg base 4 "_law_a_names" f fd ["stream", "many"] (spA K 2 Fa_names) := by
  refine Dd.mk' (Dd.fn.ok sc__law_a_names (fun vs H Q E h => spA_len h) (fun cdv A outer s H vs Q E hr h => ?_))
  refine ⟨_, (pss_cons (ps_set (i := 2) sc__law_a_names.nd rfl (Or.inl rfl) (pe_lst pa_nil))
  (pss_cons (ps_for PassesOwn.never rfl (pi_range1 (by rfl) B.range (pa_cons (pv 1) pa_nil)) (pg_name (i := 3) sc__law_a_names.nd rfl (Or.inl rfl))
  (pss_one (ps_expr (bmK K PySem.F.plainAttrs_list PySem.F.slot_list_append PySem.F.type_list_append mt_append (pv 2) (pa_cons (pe_fn F__law_a_name (hr.mono (by decide)) (by rfl) (pa_cons (pv 0) (pa_cons (pv 2) pa_nil))) pa_nil)))))
  (pss_one (ps_ret (pv 2))))), wS_body h fun ss O P hl hf => ?_⟩
  obtain ⟨a, cl, n, k, rfl, hlk, hn, hk, p⟩ := hf
  repeat fail
  refine wE_lstOwn 1 ?_
  repeat fail
  refine ⟨[], rfl, by decide, fun fa => ?_⟩
  repeat fail
  refine wS_for (wI_rng1 ?_)
  repeat fail
  refine ⟨_, rfl, by omega, by omega, fun i Γ' O' => ∃ (xs : List Str) (x3 : Option Sl), Γ' = [some (.p 0 a), some (.d (.int (k : Int))), some (.p 1 fa), x3] ∧ O' = (1, fa, .ol (sD xs)) :: setO O 0 (.sm cl (n + i)) ∧ xs.length = i ∧ xs.Nodup ∧ (∀ z ∈ xs, NameOk z) ∧ i ≤ k, ⟨[], none, rfl, ?_, rfl, List.nodup_nil, fun z hz => by simp at hz, by omega⟩, fun _ _ _ _ => trivial, ?_, ?_⟩
  · show _ = (1, fa, OD.ol []) :: setO O 0 (.sm cl n)
    rw [setO_self hlk]
  · rintro i d Γ' O' hd ⟨xs, x3, rfl, rfl, hxl, nd, ok, hik⟩
    obtain ⟨hi, rfl⟩ := rngD_get hd
    rw [Int.toNat_natCast] at hi
    repeat fail
    refine ⟨_, .own (l := 1) (a := fa) rfl, ?_⟩
    repeat fail
    refine ⟨rfl, a, cl, n + i, _, xs, rfl, look_setO hlk, by omega, fun q => .own (l := 1) (a := fa) rfl, by omega, fun z hz hzx => ?_⟩
    repeat fail
    refine a_append (l := 1) (a := fa) (ds := sD xs) rfl (by rw [List.length_map]; omega) ?_
    refine ⟨xs ++ [z], _, rfl, ?_, by simp [hxl], ?_, ?_, by omega⟩
    · show (1, fa, OD.ol (sD xs ++ [D.str z])) :: setO (setO O 0 (.sm cl (n + i))) 0 (.sm cl (n + i + 1)) = (1, fa, OD.ol ((xs ++ [z]).map D.str)) :: _
      rw [setO_setO, List.map_append]
      rfl
    · rw [List.nodup_append]
      exact ⟨nd, by simp, fun a ha b hb e => hzx (by simp at hb; rw [← hb, ← e]; exact ha)⟩
    · intro y hy
      rcases List.mem_append.mp hy with hy | hy
      · exact ok y hy
      · simp at hy; subst hy; exact hz
  · rintro Γ' O' ⟨xs, x3, rfl, rfl, hxl, nd, ok, hik⟩
    rw [rngD_len, Int.toNat_natCast] at hxl hik
    rw [rngD_len, Int.toNat_natCast]
    refine wS_ret (wE_pub ?_)
    repeat fail
    exact ⟨1, fa, sD xs, rfl, rfl, p xs hxl ⟨nd, ok, by omega⟩⟩
/-! ### rings by the law -/
def Feach_once : FF := fun ss O P => ∃ xs : List Str, ss = [.d (.lst (sD xs))] ∧ xs.length ≤ 1000 ∧ ∀ zs : List Str, (zs.length = xs.length ↔ xs.Nodup) → P (.d (.lst (sD zs))) O
abbrev s__law_each_once : Stmt := topS 42
theorem sc__law_each_once : FnScope ["things", "found", "thing"] ["things"] (defScope s__law_each_once) := ⟨rfl, rfl, rfl, by decide +kernel, rfl, by decide +kernel, by decide +kernel⟩
theorem ok_law_each_once {f : Addr} {fd : FuncData} (Dd : Df K mg "_law_each_once" "_law_each_once" s__law_each_once f fd ["things"]) (B : BT mg) :
    Fn P w K mg base 1 "_law_each_once" f fd ["things"] (spA K 1 Feach_once) := by
  refine Dd.mk' (Dd.fn.ok sc__law_each_once (fun vs H Q E h => spA_len h) (fun cdv A outer s H vs Q E hr h => ?_))
  refine ⟨_, (pss_cons (ps_set (i := 1) sc__law_each_once.nd rfl (Or.inl rfl) (pe_lst pa_nil))
  (pss_cons (ps_for PassesOwn.never rfl (seqK K (pv 0)) (pg_name (i := 2) sc__law_each_once.nd rfl (Or.inl rfl))
  (pss_one (ps_if (pt_cmpR (notInK K) (pv 2) (pv 1) (by rfl)) (pss_one (ps_expr (bmK K PySem.F.plainAttrs_list PySem.F.slot_list_append PySem.F.type_list_append mt_append (pv 1) (pa_cons (pv 2) pa_nil)))) pss_nil)))
  (pss_one (ps_ret (pv 1))))), wS_body h fun ss O P hl hf => ?_⟩
  obtain ⟨xs, rfl, hx, p⟩ := hf
  repeat fail
  refine wE_lstOwn 1 ?_
  repeat fail
  refine ⟨[], rfl, by decide, fun fa => ?_⟩
  repeat fail
  refine wS_for (wI_seq ?_)
  repeat fail
  refine ⟨_, .lst _, fun i Γ' O' => ∃ (zs : List Str) (x2 : Option Sl), Γ' = [some (.d (.lst (sD xs))), some (.p 1 fa), x2] ∧ O' = (1, fa, .ol (sD zs)) :: O ∧ zs.length ≤ i ∧ (∀ z, z ∈ zs ↔ z ∈ xs.take i) ∧ (zs.length = i ↔ (xs.take i).Nodup), ⟨[], none, rfl, rfl, by simp, by simp, by simp⟩, fun _ _ _ _ => .lst _, ?_, ?_⟩
  · rintro i d Γ' O' hd ⟨zs, x2, rfl, rfl, hzl, hmem, hnd⟩
    obtain ⟨z, hz, hzi, rfl⟩ := mem_of_strs hd
    have hil := (List.getElem?_eq_some_iff.mp hzi).1
    repeat fail
    refine wS_if ?_
    repeat fail
    refine a_notInStrs (.own (l := 1) (a := fa) rfl) ⟨_, rfl, fun hb => ?_, fun hb => ?_⟩
    · have hno : z ∉ zs := of_decide_eq_false (bnot_t hb)
      repeat fail
      refine ⟨_, .own (l := 1) (a := fa) rfl, ?_⟩
      repeat fail
      refine a_append (l := 1) (a := fa) (ds := sD zs) rfl (by rw [List.length_map]; omega) ?_
      refine ⟨zs ++ [z], _, rfl, ?_, by rw [List.length_append]; simp; omega, fun y => ?_, ?_⟩
      · show (1, fa, OD.ol (sD zs ++ [D.str z])) :: O = (1, fa, OD.ol ((zs ++ [z]).map D.str)) :: O
        rw [List.map_append]
        rfl
      · rw [take_next hzi, List.mem_append, List.mem_append, hmem y]
      · rw [take_next hzi, List.length_append, List.nodup_append]
        have hno2 : z ∉ xs.take i := fun h => hno ((hmem z).mpr h)
        constructor
        · intro h
          simp at h
          exact ⟨hnd.mp h, by simp, fun a ha b hb e => hno2 (by simp at hb; rw [← hb, ← e]; exact ha)⟩
        · intro h
          have := hnd.mpr h.1
          simp [this]
    · have hin : z ∈ zs := of_decide_eq_true (bnot_f hb)
      repeat fail
      have hin2 : z ∈ xs.take i := (hmem z).mp hin
      refine ⟨zs, _, rfl, rfl, by omega, fun y => ?_, ?_⟩
      · rw [take_next hzi, List.mem_append, hmem y]
        simp
        intro e
        rw [e]; exact hin2
      · rw [take_next hzi, List.nodup_append]
        constructor
        · intro h; omega
        · intro h
          exact absurd rfl (h.2.2 z hin2 z (by simp))
  · rintro Γ' O' ⟨zs, x2, rfl, rfl, hzl, hmem, hnd⟩
    rw [List.length_map, List.take_length] at hnd
    refine wS_ret (wE_pub ?_)
    repeat fail
    exact ⟨1, fa, sD zs, rfl, rfl, p zs hnd⟩
def ringL (al : Str → Str) (rw : Str → List Str) (zs : List Str) : Bool := decide (2 ≤ zs.length) && decide zs.Nodup && (nbrs zs).all fun e => decide (ix (rw e.1) (al e.2) < ix (rw e.1) (al e.1))
theorem nbrs_cat {zs : List Str} : nbrs zs = zs.zip (zs.drop 1 ++ zs.take 1) := rfl
theorem nbrs_mem {zs : List Str} {e : Str × Str} (h : e ∈ nbrs zs) : e.1 ∈ zs ∧ e.2 ∈ zs := by
  have h1 := List.of_mem_zip (show (e.1, e.2) ∈ zs.zip _ from h)
  refine ⟨h1.1, ?_⟩
  rcases List.mem_append.mp h1.2 with h2 | h2
  · exact List.mem_of_mem_drop h2
  · exact List.mem_of_mem_take h2
def Flaw_is_ring : FF := fun ss O P => ∃ (ps ks zs : List Str) (rw : Str → List Str) (al : Str → Str), ss = [.d (.dct (funD (lstS rw) ps)), .d (.dct (funD (strF al) ks)), .d (.lst (sD zs))] ∧ ks.Perm ps ∧ zs.length ≤ 1000 ∧ (∀ z ∈ zs, z ∈ ps) ∧ (∀ p ∈ ps, ∀ q ∈ ps, al q ∈ rw p) ∧ P (.d (.bl (ringL al rw zs))) O
abbrev s__law_is_ring : Stmt := topS 45
theorem sc__law_is_ring : FnScope ["rows", "given", "ring", "pairs", "one", "two"] ["rows", "given", "ring"] (defScope s__law_is_ring) := ⟨rfl, rfl, rfl, by decide +kernel, rfl, by decide +kernel, by decide +kernel⟩
theorem ok_law_is_ring {f f1 : Addr} {fd fd1 : FuncData} (Dd : Df K mg "_law_is_ring" "_law_is_ring" s__law_is_ring f fd ["rows", "given", "ring"]) (B : BT mg) (F__law_each_once : Fn P w K mg base 1 "_law_each_once" f1 fd1 ["things"] (spA K 1 Feach_once)) :
    Fn P w K mg base 2 "_law_is_ring" f fd ["rows", "given", "ring"] (spA K 3 Flaw_is_ring) := by
  refine Dd.mk' (Dd.fn.ok sc__law_is_ring (fun vs H Q E h => spA_len h) (fun cdv A outer s H vs Q E hr h => ?_))
  have hu := hu_of hr
  refine ⟨_, (pss_cons (ps_if (PW.pt (pw_or (pt_cmpR op_lt (pe_callB (lenSeqK K) (by rfl) B.len (by decide +kernel) (pa_cons (pv 2) pa_nil)) pe_int (nomark _)) (pw_or1 (pt_cmpR op_ne (pe_callB (lenSeqK K) (by rfl) B.len (by decide +kernel) (pa_cons (pe_fn F__law_each_once (hr.mono (by decide)) (by rfl) (pa_cons (pv 2) pa_nil)) pa_nil)) (pe_callB (lenSeqK K) (by rfl) B.len (by decide +kernel) (pa_cons (pv 2) pa_nil)) (nomark _))))) (pss_one (ps_ret pe_bl)) pss_nil)
  (pss_cons (ps_set (i := 3) sc__law_is_ring.nd rfl (Or.inl rfl) (listZipK K rfl (by rfl) B.list (by rfl) B.zip (pa_cons (pv 2) (pa_cons (pe_op op_cat (pe_slice (slLK K) (pv 2) (po_some pe_int) po_none) (pe_slice (slLK K) (pv 2) po_none (po_some pe_int))) pa_nil))))
  (pss_one (ps_ret (pe_callB (allK K rfl) (by rfl) B.all (by decide +kernel) (pa_cons (pe_lc (own := [("one", 4), ("two", 5)]) rfl sc__law_is_ring.nd (seqK K (pv 3)) (blkOk_by (by first | decide +kernel | rfl)) (fun _ _ _ _ _ => (tupK K 2 rfl (pgs_cons (pg_name (i := 4) sc__law_is_ring.nd rfl (by first | exact Or.inl rfl | exact Or.inr rfl)) (pgs_cons (pg_name (i := 5) sc__law_is_ring.nd rfl (by first | exact Or.inl rfl | exact Or.inr rfl)) pgs_nil)))) (fun _ _ _ _ _ => pts_nil) (fun _ _ _ _ _ => (pe_cmpR op_lt (bmK K PySem.F.plainAttrs_list PySem.F.slot_list_index PySem.F.type_list_index (indexK K) (pe_dget hu (pv 0) (pv 4) (fun _ _ => rfl)) (pa_cons (pe_dget hu (pv 1) (pv 5) (fun _ _ => rfl)) pa_nil)) (bmK K PySem.F.plainAttrs_list PySem.F.slot_list_index PySem.F.type_list_index (indexK K) (pe_dget hu (pv 0) (pv 4) (fun _ _ => rfl)) (pa_cons (pe_dget hu (pv 1) (pv 4) (fun _ _ => rfl)) pa_nil)) (nomark _)))) pa_nil)))))), wS_body h fun ss O P hl hf => ?_⟩
  obtain ⟨ps, ks, zs, rw', al, rfl, hk, hz, hzs, hmem, p⟩ := hf
  refine wS_seq (wS_if (wT_or ?_))
  repeat fail
  refine a_lenSeq (.lst _) ?_
  repeat fail
  refine a_lt ⟨_, rfl, fun h2 => ?_, fun h2 => ?_⟩
  · have h2' : 2 ≤ zs.length := by
      have := of_decide_eq_false h2
      rw [List.length_map] at this
      omega
    repeat fail
    refine ⟨rfl, zs, rfl, hz, fun us hus => ?_⟩
    repeat fail
    refine a_lenSeq (.lst _) ?_
    repeat fail
    refine a_lenSeq (.lst _) (a_neInt ⟨_, rfl, fun hb => ?_, fun hb => ?_⟩)
    · have hne : ¬ zs.Nodup := fun nd => by
        have := hus.mpr nd
        rw [List.length_map, List.length_map, this] at hb
        simp at hb
      repeat fail
      have e : ringL al rw' zs = false := by
        unfold ringL
        rw [decide_eq_false hne, Bool.and_false, Bool.false_and]
      rw [e] at p
      exact p
    · have nd : zs.Nodup := by
        refine hus.mp ?_
        rw [List.length_map, List.length_map] at hb
        have := of_decide_eq_true (bnot_f hb)
        omega
      repeat fail
      refine wE_listZip ?_
      repeat fail
      refine ⟨_, rfl, ?_⟩
      repeat fail
      refine a_slL (.lst _) ?_
      repeat fail
      refine ⟨_, rfl, ?_⟩
      refine a_slL (.lst _) ?_
      rw [show ((1 : Int)) = ((1 : Nat) : Int) from rfl, cutD_from, cutD_to, ← List.map_drop, ← List.map_take]
      refine a_cat (.lst _) (.lst _) (by rw [List.length_map, List.length_map, List.length_drop, List.length_take]; omega) ?_
      repeat fail
      rw [← List.map_append]
      refine ⟨_, _, zs, _, rfl, .lst _, .lst _, ?_⟩
      have ez : zs.zip ((zs.drop 1 ++ zs.take 1).map D.str) = (nbrs zs).map fun e => (e.1, D.str e.2) := by
        rw [nbrs_cat, List.zip_map_right]
        rfl
      rw [ez]
      repeat fail
      refine wE_allI (tgk_tup (tgk_consN (by decide) (tgk_consN (by decide) tgk_nil))) (wI_seq ?_)
      repeat fail
      refine ⟨_, .lst _, (nbrs zs).map fun e => (e.1, D.str e.2), fun x d => match d with | .str y => decide (ix (rw' x) (al y) < ix (rw' x) (al x)) | _ => false, rfl, ?_, fun _ _ => .lst _, fun x d hxd acc c => ?_, ?_⟩
      · rw [List.length_map, nbrs_cat, List.length_zip]; omega
      · obtain ⟨e, he, ee⟩ := List.mem_map.mp hxd
        cases ee
        obtain ⟨m1, m2⟩ := nbrs_mem he
        have h1 := hzs _ m1
        have h2 := hzs _ m2
        repeat fail
        refine ⟨_, e.1, _, .dct _, rfl, lookD_in h1, ?_⟩
        refine ⟨_, .lst _, ?_⟩
        repeat fail
        refine ⟨_, e.2, _, .dct _, rfl, lookD_in (hk.mem_iff.mpr h2), ?_⟩
        repeat fail
        refine a_index (ns := rw' e.1) (.lst _) (ix_at (hmem _ h1 _ h2)) (fun _ hm => ix_first hm) ?_
        repeat fail
        refine ⟨_, e.1, _, .dct _, rfl, lookD_in h1, ?_⟩
        refine ⟨_, .lst _, ?_⟩
        repeat fail
        refine ⟨_, e.1, _, .dct _, rfl, lookD_in (hk.mem_iff.mpr h1), ?_⟩
        repeat fail
        refine a_index (ns := rw' e.1) (.lst _) (ix_at (hmem _ h1 _ h1)) (fun _ hm => ix_first hm) (a_lt ⟨rfl, ?_⟩)
        congr 2
        simp
      · have e3 : ringL al rw' zs = ((nbrs zs).map fun e => (e.1, D.str e.2)).all fun p => (fun (x : Str) (d : D) => match d with | .str y => decide (ix (rw' x) (al y) < ix (rw' x) (al x)) | _ => false) p.1 p.2 := by
          unfold ringL
          rw [decide_eq_true h2', decide_eq_true nd, Bool.true_and, Bool.true_and, List.all_map]
          rfl
        rw [e3] at p
        exact p
  · refine ⟨fun _ => ?_, fun q => by cases q⟩
    repeat fail
    have e : ringL al rw' zs = false := by
      unfold ringL
      have h3 : ¬ 2 ≤ zs.length := fun z => by
        have := of_decide_eq_true h2
        rw [List.length_map] at this
        omega
      rw [decide_eq_false h3, Bool.false_and, Bool.false_and]
    rw [e] at p
    exact p
end
end Y

/-! k61: sameness; the start; forgetting slots. -/
namespace Y
open PySem PySem.Spec PyProof.Rows L2
local macro_rules | `(tactic| fail) => `(tactic| ((first
  | with_reducible refine wS_seq ?_
  | with_reducible refine wS_ret ?_
  | with_reducible refine wS_set ?_
  | with_reducible refine wS_asgTup ?_
  | with_reducible refine wS_asg ?_
  | with_reducible refine wS_par ?_
  | with_reducible refine wS_drop ?_
  | with_reducible refine wS_dput ?_
  | with_reducible refine wS_fld ?_
  | with_reducible refine wS_next ?_
  | with_reducible refine wS_nextE ?_
  | with_reducible refine wS_brkE ?_
  | with_reducible refine wS_brk ?_
  | with_reducible refine wT_B ?_
  | with_reducible refine wT_Test ?_
  | with_reducible refine wT_not ?_
  | with_reducible refine wT_yes ?_
  | (with_reducible refine wE_var' ?_; refine ⟨_, rfl, ?_⟩)
  | with_reducible refine wE_int ?_
  | with_reducible refine wE_bl ?_
  | with_reducible refine wE_str ?_
  | with_reducible refine wE_non ?_
  | with_reducible refine wE_op ?_
  | with_reducible refine wE_un ?_
  | with_reducible refine wE_isi ?_
  | with_reducible refine wE_cbLen ?_
  | with_reducible refine wE_cbLenS ?_
  | with_reducible refine wE_cbLenD ?_
  | with_reducible refine wE_cbListOf ?_
  | with_reducible refine wE_cbTup ?_
  | with_reducible refine wE_isN ?_
  | with_reducible refine wE_notN ?_
  | with_reducible refine a_neg ?_
  | with_reducible refine wA_nil ?_
  | with_reducible refine wA_cons ?_
  | with_reducible refine wA_star ?_
  | with_reducible refine wE_sl ?_
  | with_reducible refine wO_none ?_
  | with_reducible refine wO_some ?_
  | with_reducible refine wE_notV ?_
  | with_reducible refine wE_dget ?_
  | with_reducible refine wE_din ?_
  | with_reducible refine wE_dnotin ?_
  | with_reducible refine wE_fld ?_
  | with_reducible refine wE_frz ?_
  | with_reducible refine wE_bmL ?_
  | with_reducible refine wE_call ?_
  | with_reducible refine wG_name ?_
  | with_reducible refine wG_tup rfl ?_
  | with_reducible refine wGs_consM ?_
  | with_reducible refine wGs_nilM ?_
  | with_reducible refine wGs_nil ?_
  | with_reducible refine wGs_cons ?_) <;> (try dsimp only)))

section
variable {P : Program} {w : World} {K : PySem.W.Frag} {mg : Str → Option Value} {base : Heap} {C I W : Addr} {t1 t2 : Tok}
/-- all([..]) where every test is true -/
theorem wE_allT {Γ : GG} {O : OO} {te : TE} {P : Sl → OO → Prop} {wi : TI} {g : TG} {vs : List Nat} (tg : TgK g vs) (h : wI K wi Γ O fun ds C O1 => ds.length < 100000 ∧ (∀ acc a, C ((99, a, .ol acc) :: O1)) ∧
    (∀ (i : Nat) (d : D), ds[i]? = some d → ∀ (acc : List D) (a : Addr), wG K g (.d d) (wipeG Γ vs) ((99, a, .ol acc) :: O1) fun Γ2 O2 => wE K te Γ2 O2 fun y O4 => O4 = (99, a, .ol acc) :: O1 ∧ y = .d (.bl true)) ∧ P (.d (.bl true)) O1) :
    wE K (tCB (rAll K) (tCons (tLc wi g tYes te vs) tNil)) Γ O P := by
  refine wE_cb (wA_cons (wE_lcP tg (h.imp fun ds C O1 ⟨hz, hC, hs, p⟩ => ⟨fun _ => some (.bl true), hC, hz, fun i d acc a hd => ?_, ?_⟩)))
  · refine fun v σ H w sl hv Q q => hs i d hd acc a v σ H w sl hv Q fun σ' H' Γ' O'' p => q σ' H' Γ' O'' (wT_yes ⟨fun _ => p.imp fun y O4 ⟨e1, e2⟩ => ⟨e1, _, e2, rfl⟩, fun z => by cases z⟩)
  · refine wA_nil ?_
    have e : ds.filterMap (fun _ => some (D.bl true)) = (ds.map fun _ => true).map D.bl := by
      rw [filterMap_some (fun _ => D.bl true), List.map_map]; rfl
    rw [e]
    refine a_all (bs := ds.map fun _ => true) (.lst _) ?_
    rw [List.all_eq_true.mpr fun b hb => by
      obtain ⟨_, _, rfl⟩ := List.mem_map.mp hb
      rfl]
    exact p
def Fsame0 : FF := fun ss O P => ∃ d : D, ss = [.d d, .d d] ∧ ((∃ x, d = .str x) ∨ ∃ b, d = .bl b) ∧ P (.d (.bl true)) O
abbrev s__law_same : Stmt := topS 41
theorem sc__law_same : FnScope ["found", "due", "x", "y"] ["found", "due"] (defScope s__law_same) := ⟨rfl, rfl, rfl, by decide +kernel, rfl, by decide +kernel, by decide +kernel⟩
theorem ok_law_same0 {f : Addr} {fd : FuncData} (Dd : Df K mg "_law_same" "_law_same" s__law_same f fd ["found", "due"]) (B : BT mg) :
    Fn P w K mg base 1 "_law_same" f fd ["found", "due"] (spA K 2 Fsame0) := by
  refine Dd.mk' (Dd.fn.ok sc__law_same (fun vs H Q E h => spA_len h) (fun cdv A outer s H vs Q E hr h => ?_))
  refine ⟨_, (pss_cons (ps_if (pt_val (pe_callB (isiTK K) (by rfl) B.isinstance (by decide +kernel) (pa_cons (pv 1) (pa_cons (pe_tup (pa_cons (bty "list" (by rfl) B.list (by decide +kernel)) (pa_cons (bty "tuple" (by rfl) B.tuple (by decide +kernel)) pa_nil))) pa_nil)))) pss_never pss_nil)
  (pss_cons (ps_if (pt_val (pe_callB (isiK K) (by rfl) B.isinstance (by decide +kernel) (pa_cons (pv 1) (pa_cons (bty "dict" (by rfl) B.dict (by decide +kernel)) pa_nil)))) pss_never pss_nil)
  (pss_cons (ps_if (pt_val (pe_callB (isiK K) (by rfl) B.isinstance (by decide +kernel) (pa_cons (pv 1) (pa_cons (bty "int" (by rfl) B.int (by decide +kernel)) pa_nil)))) (pss_one (ps_ret (pe_and (pe_callB (isiK K) (by rfl) B.isinstance (by decide +kernel) (pa_cons (pv 0) (pa_cons (bty "int" (by rfl) B.int (by decide +kernel)) pa_nil))) (pe_and (pe_cmpR op_eq (pe_callB (isiK K) (by rfl) B.isinstance (by decide +kernel) (pa_cons (pv 0) (pa_cons (bty "bool" (by rfl) B.bool (by decide +kernel)) pa_nil))) (pe_callB (isiK K) (by rfl) B.isinstance (by decide +kernel) (pa_cons (pv 1) (pa_cons (bty "bool" (by rfl) B.bool (by decide +kernel)) pa_nil))) (nomark _)) (pe_one (pe_cmpR op_eq (pv 0) (pv 1) (nomark _))))))) pss_nil)
  (pss_one (ps_ret (pe_and (pe_not (pe_callB (isiTK K) (by rfl) B.isinstance (by decide +kernel) (pa_cons (pv 0) (pa_cons (pe_tup (pa_cons (bty "int" (by rfl) B.int (by decide +kernel)) (pa_cons (bty "list" (by rfl) B.list (by decide +kernel)) (pa_cons (bty "tuple" (by rfl) B.tuple (by decide +kernel)) (pa_cons (bty "dict" (by rfl) B.dict (by decide +kernel)) pa_nil))))) pa_nil)))) (pe_one (pe_cmpR op_eq (pv 0) (pv 1) (nomark _))))))))), wS_body h fun ss O P hl hf => ?_⟩
  obtain ⟨d, rfl, hd, p⟩ := hf
  rcases hd with ⟨x, rfl⟩ | ⟨b, rfl⟩
  · refine wS_seq (wS_ifF ?_)
    repeat fail
    refine wE_isiT (ns := ["list", "tuple"]) ?_ (by decide)
    repeat fail
    refine ⟨_, _, false, rfl, rfl, by decide, _, rfl, rfl, ?_⟩
    fail
    refine wS_seq (wS_ifF ?_)
    repeat fail
    refine ⟨_, _, false, rfl, rfl, by decide, _, rfl, rfl, ?_⟩
    fail
    refine wS_seq (wS_ifF ?_)
    repeat fail
    refine ⟨_, _, false, rfl, rfl, by decide, _, rfl, rfl, ?_⟩
    fail
    fail
    refine wE_andT ?_
    repeat fail
    refine wE_isiT (ns := ["int", "list", "tuple", "dict"]) ?_ (by decide)
    repeat fail
    refine ⟨_, _, false, rfl, rfl, by decide, _, rfl, rfl, ?_⟩
    repeat fail
    refine a_eqStr ?_
    rw [decide_eq_true rfl]
    exact p
  · refine wS_seq (wS_ifF ?_)
    repeat fail
    refine wE_isiT (ns := ["list", "tuple"]) ?_ (by decide)
    repeat fail
    refine ⟨_, _, false, rfl, rfl, by decide, _, rfl, rfl, ?_⟩
    fail
    refine wS_seq (wS_ifF ?_)
    repeat fail
    refine ⟨_, _, false, rfl, rfl, by decide, _, rfl, rfl, ?_⟩
    fail
    refine wS_seq (wS_ifT ?_)
    repeat fail
    refine ⟨_, _, true, rfl, rfl, by decide, _, rfl, rfl, ?_⟩
    fail
    refine wE_andT ?_
    repeat fail
    refine ⟨_, _, true, rfl, rfl, by decide, rfl, ?_⟩
    refine wE_andT ?_
    repeat fail
    refine ⟨_, _, true, rfl, rfl, by decide, ?_⟩
    repeat fail
    refine ⟨_, _, true, rfl, rfl, by decide, a_eqBl ⟨rfl, ?_⟩⟩
    repeat fail
    refine a_eqBl ?_
    rw [decide_eq_true rfl]
    exact p
def Fsame1 : FF := fun ss O P => ∃ x : Str × Str, ss = [.d (pairD x), .d (pairD x)] ∧ P (.d (.bl true)) O
theorem ok_law_same1 {f : Addr} {fd : FuncData} (Dd : Df K mg "_law_same" "_law_same" s__law_same f fd ["found", "due"]) (B : BT mg) (F__law_same : Fn P w K mg base 1 "_law_same" f fd ["found", "due"] (spA K 2 Fsame0)) :
    Fn P w K mg base 2 "_law_same" f fd ["found", "due"] (spA K 2 Fsame1) := by
  refine Dd.mk' (Dd.fn.ok sc__law_same (fun vs H Q E h => spA_len h) (fun cdv A outer s H vs Q E hr h => ?_))
  refine ⟨_, (pss_cons (ps_if (pt_val (pe_callB (isiTK K) (by rfl) B.isinstance (by decide +kernel) (pa_cons (pv 1) (pa_cons (pe_tup (pa_cons (bty "list" (by rfl) B.list (by decide +kernel)) (pa_cons (bty "tuple" (by rfl) B.tuple (by decide +kernel)) pa_nil))) pa_nil)))) (pss_cons (ps_if (PW.pt (pw_or (pt_cmpR op_ne (pe_callB (isiK K) (by rfl) B.isinstance (by decide +kernel) (pa_cons (pv 0) (pa_cons (bty "list" (by rfl) B.list (by decide +kernel)) pa_nil))) (pe_callB (isiK K) (by rfl) B.isinstance (by decide +kernel) (pa_cons (pv 1) (pa_cons (bty "list" (by rfl) B.list (by decide +kernel)) pa_nil))) (nomark _)) (pw_or1 (pt_cmpR op_ne (pe_callB (isiK K) (by rfl) B.isinstance (by decide +kernel) (pa_cons (pv 0) (pa_cons (bty "tuple" (by rfl) B.tuple (by decide +kernel)) pa_nil))) (pe_callB (isiK K) (by rfl) B.isinstance (by decide +kernel) (pa_cons (pv 1) (pa_cons (bty "tuple" (by rfl) B.tuple (by decide +kernel)) pa_nil))) (nomark _))))) (pss_one (ps_ret pe_bl)) pss_nil)
  (pss_one (ps_ret (pe_and (pe_cmpR op_eq (pe_callB (lenSeqK K) (by rfl) B.len (by decide +kernel) (pa_cons (pv 0) pa_nil)) (pe_callB (lenSeqK K) (by rfl) B.len (by decide +kernel) (pa_cons (pv 1) pa_nil)) (nomark _)) (pe_one (pe_callB (allK K rfl) (by rfl) B.all (by decide +kernel) (pa_cons (pe_lc (own := [("x", 2), ("y", 3)]) rfl sc__law_same.nd (zipK K (by rfl) B.zip (pa_cons (pv 0) (pa_cons (pv 1) pa_nil))) (blkOk_by (by first | decide +kernel | rfl)) (fun _ _ _ _ _ => (tupK K 2 rfl (pgs_cons (pg_name (i := 2) sc__law_same.nd rfl (by first | exact Or.inl rfl | exact Or.inr rfl)) (pgs_cons (pg_name (i := 3) sc__law_same.nd rfl (by first | exact Or.inl rfl | exact Or.inr rfl)) pgs_nil)))) (fun _ _ _ _ _ => pts_nil) (fun _ _ _ _ _ => (pe_fn F__law_same (hr.mono (by decide)) (by rfl) (pa_cons (pv 2) (pa_cons (pv 3) pa_nil))))) pa_nil))))))) pss_nil)
  pss_never), wS_body h fun ss O P hl hf => ?_⟩
  obtain ⟨⟨x, y⟩, rfl, p⟩ := hf
  refine wS_seq (wS_ifT ?_)
  repeat fail
  refine wE_isiT (ns := ["list", "tuple"]) ?_ (by decide)
  repeat fail
  refine ⟨_, _, true, rfl, rfl, by decide, _, rfl, rfl, ?_⟩
  refine wS_seq (wS_ifF (wT_orF ?_))
  repeat fail
  refine ⟨_, _, false, rfl, rfl, by decide, ?_⟩
  repeat fail
  refine ⟨_, _, false, rfl, rfl, by decide, a_neBl ⟨_, rfl, rfl, ?_⟩⟩
  repeat fail
  refine ⟨_, _, true, rfl, rfl, by decide, ?_⟩
  repeat fail
  refine ⟨_, _, true, rfl, rfl, by decide, a_neBl ⟨_, rfl, rfl, ?_⟩⟩
  fail
  fail
  refine wE_andT ?_
  repeat fail
  refine a_lenSeq (.tup [.str x, .str y]) ?_
  repeat fail
  refine a_lenSeq (.tup [.str x, .str y]) (a_eqInt ⟨rfl, ?_⟩)
  refine wE_allT (tgk_tup (tgk_consN (by decide) (tgk_consN (by decide) tgk_nil))) (wI_zipB ?_)
  repeat fail
  refine ⟨_, _, [.str x, .str y], [.str x, .str y], rfl, .tup _, .tup _, by show 2 < 100000; decide, fun _ _ => ⟨.tup _, .tup _⟩, fun i d hd acc a => ?_, p⟩
  obtain ⟨u, v, hu, hv, rfl⟩ := zipD_get hd
  rw [hu] at hv
  cases hv
  have hs : ∃ z, u = .str z := by
    have := List.mem_of_getElem? hu
    simp at this
    rcases this with rfl | rfl
    · exact ⟨x, rfl⟩
    · exact ⟨y, rfl⟩
  repeat fail
  exact ⟨rfl, u, rfl, .inl hs, rfl, rfl⟩
def Fsame2 : FF := fun ss O P => ∃ xs : List (Str × Str), ss = [.d (.lst (xs.map pairD)), .d (.lst (xs.map pairD))] ∧ xs.length ≤ 1000 ∧ P (.d (.bl true)) O
theorem ok_law_same2 {f : Addr} {fd : FuncData} (Dd : Df K mg "_law_same" "_law_same" s__law_same f fd ["found", "due"]) (B : BT mg) (F__law_same : Fn P w K mg base 2 "_law_same" f fd ["found", "due"] (spA K 2 Fsame1)) :
    Fn P w K mg base 3 "_law_same" f fd ["found", "due"] (spA K 2 Fsame2) := by
  refine Dd.mk' (Dd.fn.ok sc__law_same (fun vs H Q E h => spA_len h) (fun cdv A outer s H vs Q E hr h => ?_))
  refine ⟨_, (pss_cons (ps_if (pt_val (pe_callB (isiTK K) (by rfl) B.isinstance (by decide +kernel) (pa_cons (pv 1) (pa_cons (pe_tup (pa_cons (bty "list" (by rfl) B.list (by decide +kernel)) (pa_cons (bty "tuple" (by rfl) B.tuple (by decide +kernel)) pa_nil))) pa_nil)))) (pss_cons (ps_if (PW.pt (pw_or (pt_cmpR op_ne (pe_callB (isiK K) (by rfl) B.isinstance (by decide +kernel) (pa_cons (pv 0) (pa_cons (bty "list" (by rfl) B.list (by decide +kernel)) pa_nil))) (pe_callB (isiK K) (by rfl) B.isinstance (by decide +kernel) (pa_cons (pv 1) (pa_cons (bty "list" (by rfl) B.list (by decide +kernel)) pa_nil))) (nomark _)) (pw_or1 (pt_cmpR op_ne (pe_callB (isiK K) (by rfl) B.isinstance (by decide +kernel) (pa_cons (pv 0) (pa_cons (bty "tuple" (by rfl) B.tuple (by decide +kernel)) pa_nil))) (pe_callB (isiK K) (by rfl) B.isinstance (by decide +kernel) (pa_cons (pv 1) (pa_cons (bty "tuple" (by rfl) B.tuple (by decide +kernel)) pa_nil))) (nomark _))))) (pss_one (ps_ret pe_bl)) pss_nil)
  (pss_one (ps_ret (pe_and (pe_cmpR op_eq (pe_callB (lenSeqK K) (by rfl) B.len (by decide +kernel) (pa_cons (pv 0) pa_nil)) (pe_callB (lenSeqK K) (by rfl) B.len (by decide +kernel) (pa_cons (pv 1) pa_nil)) (nomark _)) (pe_one (pe_callB (allK K rfl) (by rfl) B.all (by decide +kernel) (pa_cons (pe_lc (own := [("x", 2), ("y", 3)]) rfl sc__law_same.nd (zipK K (by rfl) B.zip (pa_cons (pv 0) (pa_cons (pv 1) pa_nil))) (blkOk_by (by first | decide +kernel | rfl)) (fun _ _ _ _ _ => (tupK K 2 rfl (pgs_cons (pg_name (i := 2) sc__law_same.nd rfl (by first | exact Or.inl rfl | exact Or.inr rfl)) (pgs_cons (pg_name (i := 3) sc__law_same.nd rfl (by first | exact Or.inl rfl | exact Or.inr rfl)) pgs_nil)))) (fun _ _ _ _ _ => pts_nil) (fun _ _ _ _ _ => (pe_fn F__law_same (hr.mono (by decide)) (by rfl) (pa_cons (pv 2) (pa_cons (pv 3) pa_nil))))) pa_nil))))))) pss_nil)
  pss_never), wS_body h fun ss O P hl hf => ?_⟩
  obtain ⟨xs, rfl, hx, p⟩ := hf
  refine wS_seq (wS_ifT ?_)
  repeat fail
  refine wE_isiT (ns := ["list", "tuple"]) ?_ (by decide)
  repeat fail
  refine ⟨_, _, true, rfl, rfl, by decide, _, rfl, rfl, ?_⟩
  refine wS_seq (wS_ifF (wT_orF ?_))
  repeat fail
  refine ⟨_, _, true, rfl, rfl, by decide, ?_⟩
  repeat fail
  refine ⟨_, _, true, rfl, rfl, by decide, a_neBl ⟨_, rfl, rfl, ?_⟩⟩
  repeat fail
  refine ⟨_, _, false, rfl, rfl, by decide, ?_⟩
  repeat fail
  refine ⟨_, _, false, rfl, rfl, by decide, a_neBl ⟨_, rfl, rfl, ?_⟩⟩
  fail
  fail
  refine wE_andT ?_
  repeat fail
  refine a_lenSeq (.lst _) ?_
  repeat fail
  refine a_lenSeq (.lst _) (a_eqInt ⟨by rw [decide_eq_true rfl], ?_⟩)
  refine wE_allT (tgk_tup (tgk_consN (by decide) (tgk_consN (by decide) tgk_nil))) (wI_zipB ?_)
  repeat fail
  refine ⟨_, _, xs.map pairD, xs.map pairD, rfl, .lst _, .lst _, by rw [zipD_len, List.length_map]; omega, fun _ _ => ⟨.lst _, .lst _⟩, fun i d hd acc a => ?_, p⟩
  obtain ⟨u, v, hu, hv, rfl⟩ := zipD_get hd
  rw [hu] at hv
  cases hv
  obtain ⟨z, _, rfl⟩ := List.mem_map.mp (List.mem_of_getElem? hu)
  repeat fail
  exact ⟨rfl, z, rfl, rfl, rfl⟩
/-! ### the start -/
def spStart (K : PySem.W.Frag) : Sp := fun vs H Q _ => ∃ (a : Addr) (ns : List Int), vs = [.ref a] ∧ SqL K H a (ns.map V.int) ∧ ns.length ≤ 63 ∧ ∀ (H' : Hp) (s cl : Addr), Strm H' s cl 0 → s ≠ cl → Q (.ref s) H'
abbrev s__law_start : Stmt := topS 37
theorem sc__law_start : FnScope ["script"] ["script"] (defScope s__law_start) := ⟨rfl, rfl, rfl, by decide +kernel, rfl, by decide +kernel, by decide +kernel⟩
theorem ok_law_start {f : Addr} {fd : FuncData} (Dd : Df K mg "_law_start" "_law_start" s__law_start f fd ["script"]) (B : BT mg) :
    Fn P w K mg base 1 "_law_start" f fd ["script"] (spStart K) := by
  refine ⟨Dd.at', Dd.fn.kp, Dd.bd, Dd.fn.ok sc__law_start (fun vs H Q E h => ?_) (fun cdv A outer s H vs Q E hr h => ?_)⟩
  · obtain ⟨a, ns, rfl, _⟩ := h
    rfl
  · obtain ⟨a, ns, rfl, hS, hlen, q⟩ := h
    refine ⟨_, (pss_one (ps_ret (pe_lst (pa_cons (pe_callTy (listOfK K) (by rfl) B.list (by decide +kernel) (pa_cons (pv 0) pa_nil)) (pa_cons pe_int (pa_cons pe_int (pa_cons pe_int pa_nil))))))), ?_⟩
    refine ⟨_, rfl, a, _, rfl, .inl hS, fun l hlf => ?_⟩
    refine ⟨by show 4 ≤ sizeLine; decide, fun p hp => ?_⟩
    have hne : l ≠ p := fun e => by rw [e] at hp; rw [upd_same] at hp; cases hp
    exact q _ p l ⟨ns, 0, 0, 11, upd_same, by rw [upd_ne hne, upd_same], by decide, by decide, by decide, by decide, by decide, hlen⟩ hne.symm
/-! ### forgetting what slots hold -/
def GLe : GG → GG → Prop
  | [], [] => True
  | none :: r, _ :: r' => GLe r r'
  | some s :: r, x :: r' => x = some s ∧ GLe r r'
  | _, _ => False
theorem GLe.len : ∀ {Γ0 Γ : GG}, GLe Γ0 Γ → Γ0.length = Γ.length
  | [], [], _ => rfl
  | none :: r, _ :: r', h => by simp [GLe.len (show GLe r r' from h)]
  | some s :: r, x :: r', h => by simp [GLe.len (show GLe r r' from h.2)]
  | [], _ :: _, h => h.elim
  | none :: _, [], h => h.elim
  | some _ :: _, [], h => h.elim
theorem GLe.get : ∀ {Γ0 Γ : GG} {i : Nat} {s : Sl}, GLe Γ0 Γ → Γ0[i]? = some (some s) → Γ[i]? = some (some s)
  | [], [], i, s, _, e => by simp at e
  | none :: r, x :: r', 0, s, h, e => by simp at e
  | none :: r, x :: r', i + 1, s, h, e => by simpa using GLe.get (show GLe r r' from h) (by simpa using e)
  | some t :: r, x :: r', 0, s, h, e => by
    simp at e
    subst e
    simp [h.1]
  | some t :: r, x :: r', i + 1, s, h, e => by simpa using GLe.get (show GLe r r' from h.2) (by simpa using e)
  | [], _ :: _, _, _, h, _ => h.elim
  | none :: _, [], _, _, h, _ => h.elim
  | some _ :: _, [], _, _, h, _ => h.elim
theorem SlOk.le {G : Hp} {σ : L2.St} {Γ0 Γ : GG} (h : SlOk K G σ Γ) (le : GLe Γ0 Γ) : SlOk K G σ Γ0 := ⟨h.len.trans le.len.symm, fun i s e => h.at' i s (le.get e)⟩
theorem wS_le {Γ0 Γ : GG} {O : OO} {ts : TS} {A : AE} (le : GLe Γ0 Γ) (h : wS K ts Γ0 O A) : wS K ts Γ O A := fun σ H D w sl e => h σ H D w (sl.le le) e
theorem wG_le {Γ0 Γ : GG} {O : OO} {g : TG} {s : Sl} {P : GG → OO → Prop} (le : GLe Γ0 Γ) (h : wG K g s Γ0 O P) : wG K g s Γ O P := fun v σ H w sl hv Q q => h v σ H w (sl.le le) hv Q q
end
end Y

/-! k61: passing along a ring. No program here. -/
namespace Y
open PySem PySem.Spec PyProof.Rows L2
theorem perm_of_sub {α : Type} [DecidableEq α] : ∀ {xs ys : List α}, xs.Nodup → (∀ x ∈ xs, x ∈ ys) → ys.length ≤ xs.length → xs.Perm ys
  | [], ys, _, _, h => by
    have : ys = [] := List.eq_nil_of_length_eq_zero (by simpa using h)
    subst this
    exact List.Perm.refl _
  | x :: xs, ys, nd, hs, h => by
    rw [List.nodup_cons] at nd
    have hx : x ∈ ys := hs x List.mem_cons_self
    have p1 := List.perm_cons_erase hx
    have ih := perm_of_sub (xs := xs) (ys := ys.erase x) nd.2 (fun z hz => by
      have hzy := hs z (List.mem_cons_of_mem _ hz)
      have hne : z ≠ x := fun e => nd.1 (e ▸ hz)
      exact (List.mem_erase_of_ne hne).mpr hzy) (by
        have := p1.length_eq
        simp at this h
        omega)
    exact (ih.cons x).trans p1.symm
theorem map_perm {α : Type} [DecidableEq α] {xs : List α} {f : α → α} (nd : xs.Nodup) (hm : ∀ x ∈ xs, f x ∈ xs) (inj : ∀ a ∈ xs, ∀ b ∈ xs, f a = f b → a = b) : (xs.map f).Perm xs :=
  perm_of_sub (nodup_map_inj nd inj) (fun z hz => by
    obtain ⟨x, hx, rfl⟩ := List.mem_map.mp hz
    exact hm x hx) (by simp)
/-- the one after p in the ring's pairs; else p -/
def nxt : List (Str × Str) → Str → Str
  | [], p => p
  | (a, b) :: r, p => if a = p then b else nxt r p
theorem nxt_out : ∀ {l : List (Str × Str)} {p : Str}, p ∉ l.map (·.1) → nxt l p = p
  | [], p, _ => rfl
  | (a, b) :: r, p, h => by
    rw [List.map_cons, List.mem_cons, not_or] at h
    show (if a = p then b else nxt r p) = p
    rw [if_neg (fun e => h.1 e.symm)]
    exact nxt_out h.2
theorem nxt_in : ∀ {l : List (Str × Str)} {e : Str × Str}, (l.map (·.1)).Nodup → e ∈ l → nxt l e.1 = e.2
  | (a, b) :: r, e, nd, h => by
    rw [List.map_cons, List.nodup_cons] at nd
    show (if a = e.1 then b else nxt r e.1) = e.2
    rcases List.mem_cons.mp h with rfl | h
    · simp
    · rw [if_neg (fun z => nd.1 (by rw [show (a, b).1 = a from rfl, z]; exact List.mem_map.mpr ⟨e, h, rfl⟩))]
      exact nxt_in nd.2 h
theorem nxt_app {l : List (Str × Str)} {e : Str × Str} {p : Str} (h : e.1 ∉ l.map (·.1)) : nxt (l ++ [e]) p = if p = e.1 then e.2 else nxt l p := by
  induction l with
  | nil =>
    show (if e.1 = p then e.2 else p) = _
    by_cases z : p = e.1
    · subst z; simp [nxt]
    · rw [if_neg (fun y => z y.symm), if_neg z]; rfl
  | cons x r ih =>
    obtain ⟨a, b⟩ := x
    rw [List.map_cons, List.mem_cons, not_or] at h
    show (if a = p then b else nxt (r ++ [e]) p) = if p = e.1 then e.2 else (if a = p then b else nxt r p)
    rw [ih h.2]
    by_cases z : a = p
    · subst z
      have h1 : ¬ a = e.1 := fun y => h.1 y.symm
      rw [if_pos rfl, if_neg h1, if_pos rfl]
    · rw [if_neg z, if_neg z]
theorem nbrs_fst {r : List Str} : (nbrs r).map (·.1) = r := by
  unfold nbrs
  rw [List.map_fst_zip]
  rw [List.length_append, List.length_drop, List.length_take]
  omega
theorem nbrs_snd {r : List Str} : ((nbrs r).map (·.2)).Perm r := by
  have e : (nbrs r).map (·.2) = r.drop 1 ++ r.take 1 := by
    unfold nbrs
    rw [List.map_snd_zip]
    rw [List.length_append, List.length_drop, List.length_take]
    omega
  rw [e]
  have := List.perm_append_comm (l₁ := r.drop 1) (l₂ := r.take 1)
  rw [List.take_append_drop] at this
  exact this
theorem nbrs_at {r : List Str} {p : Str} (h : p ∈ r) : ∃ q, (p, q) ∈ nbrs r ∧ q ∈ r := by
  have : p ∈ (nbrs r).map (·.1) := by rw [nbrs_fst]; exact h
  obtain ⟨e, he, rfl⟩ := List.mem_map.mp this
  exact ⟨e.2, he, nbrs_snd.mem_iff.mp (List.mem_map.mpr ⟨e, he, rfl⟩)⟩
/-- passing along is a turning of the people -/
theorem nxt_perm {ps r : List Str} (nd : ps.Nodup) (ndr : r.Nodup) (sub : ∀ p ∈ r, p ∈ ps) : (ps.map (nxt (nbrs r))).Perm ps := by
  have fnd : ((nbrs r).map (·.1)).Nodup := by rw [nbrs_fst]; exact ndr
  have snd : ((nbrs r).map (·.2)).Nodup := nbrs_snd.nodup_iff.mpr ndr
  have inR : ∀ p ∈ r, nxt (nbrs r) p ∈ r := fun p hp => by
    obtain ⟨q, he, hq⟩ := nbrs_at hp
    rw [nxt_in fnd he]
    exact hq
  have out : ∀ p, p ∉ r → nxt (nbrs r) p = p := fun p hp => nxt_out (by rw [nbrs_fst]; exact hp)
  refine map_perm nd (fun p hp => ?_) fun a ha b hb e => ?_
  · by_cases h : p ∈ r
    · exact sub _ (inR p h)
    · rw [out p h]; exact hp
  · by_cases h1 : a ∈ r <;> by_cases h2 : b ∈ r
    · obtain ⟨q1, he1, _⟩ := nbrs_at h1
      obtain ⟨q2, he2, _⟩ := nbrs_at h2
      rw [nxt_in fnd he1, nxt_in fnd he2] at e
      have e : q1 = q2 := e
      obtain ⟨i, hi, ei⟩ := List.getElem_of_mem he1
      obtain ⟨j, hj, ej⟩ := List.getElem_of_mem he2
      have a1 : ((nbrs r).map (·.2))[i]? = some q1 := by rw [List.getElem?_map, List.getElem?_eq_getElem hi, ei]; rfl
      have a2 : ((nbrs r).map (·.2))[j]? = some q1 := by rw [List.getElem?_map, List.getElem?_eq_getElem hj, ej, e]; rfl
      have ij := nodup_ix snd a1 a2
      subst ij
      rw [ei] at ej
      exact congrArg Prod.fst ej
    · rw [out b h2] at e
      exact absurd (e ▸ inR a h1) h2
    · rw [out a h1] at e
      exact absurd (e.symm ▸ inR b h2) h1
    · rw [out a h1, out b h2] at e; exact e
/-- how far down all stand -/
def pot (rw : Str → List Str) (al : Str → Str) (ps : List Str) : Nat := (ps.map fun p => ix (rw p) (al p)).sum
theorem sum_le {α : Type} {f g : α → Nat} : ∀ {xs : List α}, (∀ x ∈ xs, f x ≤ g x) → (xs.map f).sum ≤ (xs.map g).sum
  | [], _ => by simp
  | x :: xs, h => by
    have h1 := h x List.mem_cons_self
    have ih := sum_le (xs := xs) fun y hy => h y (List.mem_cons_of_mem _ hy)
    simp
    omega
theorem sum_lt {α : Type} {f g : α → Nat} : ∀ {xs : List α} {y : α}, (∀ x ∈ xs, f x ≤ g x) → y ∈ xs → f y < g y → (xs.map f).sum < (xs.map g).sum
  | x :: xs, y, h, hy, hl => by
    have h1 := h x List.mem_cons_self
    rcases List.mem_cons.mp hy with rfl | hy
    · have := sum_le (xs := xs) fun z hz => h z (List.mem_cons_of_mem _ hz)
      simp
      omega
    · have := sum_lt (xs := xs) (fun z hz => h z (List.mem_cons_of_mem _ hz)) hy hl
      simp
      omega
theorem pot_lt {rw' : Str → List Str} {al : Str → Str} {ps r : List Str} (two : 2 ≤ r.length) (ndr : r.Nodup) (sub : ∀ p ∈ r, p ∈ ps) (hlt : ∀ e ∈ nbrs r, ix (rw' e.1) (al e.2) < ix (rw' e.1) (al e.1)) : pot rw' (fun p => al (nxt (nbrs r) p)) ps < pot rw' al ps := by
  have fnd : ((nbrs r).map (·.1)).Nodup := by rw [nbrs_fst]; exact ndr
  have key : ∀ p ∈ r, ix (rw' p) (al (nxt (nbrs r) p)) < ix (rw' p) (al p) := fun p hp => by
    obtain ⟨q, he, _⟩ := nbrs_at hp
    have := hlt _ he
    rw [nxt_in fnd he]
    exact this
  cases r with
  | nil => simp at two
  | cons p0 r0 =>
    refine sum_lt (y := p0) (fun p hp => ?_) (sub p0 List.mem_cons_self) (key p0 List.mem_cons_self)
    by_cases h : p ∈ p0 :: r0
    · exact Nat.le_of_lt (key p h)
    · show ix (rw' p) (al (nxt (nbrs (p0 :: r0)) p)) ≤ _
      rw [nxt_out (by rw [nbrs_fst]; exact h)]
      exact Nat.le_refl _
theorem pot_le {rw' : Str → List Str} {al : Str → Str} {ps : List Str} {m : Nat} (h : ∀ p ∈ ps, ix (rw' p) (al p) ≤ m) : pot rw' al ps ≤ ps.length * m := by
  unfold pot
  induction ps with
  | nil => simp
  | cons p ps ih =>
    have h1 := h p List.mem_cons_self
    have := ih fun q hq => h q (List.mem_cons_of_mem _ hq)
    simp [Nat.succ_mul]
    omega
/-- a dict made of two rows -/
theorem zip_fun {ks : List Str} {ts : List Str} (nd : ks.Nodup) (h : ts.length = ks.length) : ∃ al : Str → Str, ks.zip (ts.map D.str) = funD (fun p => D.str (al p)) ks ∧ ks.map al = ts := by
  induction ks generalizing ts with
  | nil =>
    have : ts = [] := List.eq_nil_of_length_eq_zero (by simpa using h)
    subst this
    exact ⟨id, rfl, rfl⟩
  | cons k ks ih =>
    cases ts with
    | nil => simp at h
    | cons t ts =>
      rw [List.nodup_cons] at nd
      obtain ⟨al, h1, h2⟩ := ih nd.2 (ts := ts) (by simpa using h)
      have hne : ∀ p ∈ ks, ¬ p = k := fun p hp e => nd.1 (e ▸ hp)
      refine ⟨fun p => if p = k then t else al p, ?_, ?_⟩
      · rw [List.map_cons, List.zip_cons_cons, h1]
        show _ = (k, D.str (if k = k then t else al k)) :: funD (fun p => D.str (if p = k then t else al p)) ks
        rw [if_pos rfl]
        congr 1
        exact funD_congr fun p hp => by rw [if_neg (hne p hp)]
      · rw [List.map_cons, if_pos rfl]
        congr 1
        rw [← h2]
        exact List.map_congr_left fun p hp => if_neg (hne p hp)
theorem perm_flat {α β : Type} {f g : α → List β} : ∀ {xs : List α}, (∀ x ∈ xs, (f x).Perm (g x)) → (xs.flatMap f).Perm (xs.flatMap g)
  | [], _ => List.Perm.refl _
  | x :: xs, h => by
    rw [List.flatMap_cons, List.flatMap_cons]
    exact (h x List.mem_cons_self).append (perm_flat fun y hy => h y (List.mem_cons_of_mem _ hy))
def wantsL (ys : List Str) (al : Str → Str) (rw : Str → List Str) (p : Str) : List (Str × Str) := (ys.filter fun q => decide (ix (rw p) (al q) < ix (rw p) (al p))).map fun q => (p, q)
theorem wants_eq {ys : List Str} {al : Str → Str} {rw' : Str → List Str} (m : Mkt ys al rw') (so : sortedS ys = true) {qs : List (Str × Str)} (hq : qs.Perm (ys.flatMap fun p => (ws ys al rw' p).map fun q => (p, q))) (hp : qs.Pairwise (fun x y => sl2 y x = false)) : qs = ys.flatMap (wantsL ys al rw') := by
  have pw := sorted_pw so
  have e1 : qs.Perm (ys.flatMap (wantsL ys al rw')) := hq.trans (perm_flat fun p hpy => by
    unfold wantsL
    refine List.Perm.map _ ?_
    have n1 := ws_nodup m hpy
    have n2 : (ys.filter fun q => decide (ix (rw' p) (al q) < ix (rw' p) (al p))).Nodup := (List.filter_sublist).nodup m.nd
    have mem : ∀ q, q ∈ ws ys al rw' p ↔ q ∈ ys.filter fun q => decide (ix (rw' p) (al q) < ix (rw' p) (al p)) := fun q => by
      rw [ws_mem m hpy, List.mem_filter, decide_eq_true_iff]
    refine perm_of_sub n1 (fun x hx => (mem x).mp hx) ?_
    exact List.Nodup.length_le_of_subset n2 fun x hx => (mem x).mpr hx)
  refine List.Perm.eq_of_pairwise (le := fun x y => sl2 y x = false) (fun a b _ _ h1 h2 => ?_) hp ?_ e1
  · unfold sl2 at h1 h2
    by_cases e : a.1 = b.1
    · rw [if_pos e.symm] at h1
      rw [if_pos e] at h2
      exact Prod.ext e (sl_tot h2 h1)
    · rw [if_neg (fun z => e z.symm)] at h1
      rw [if_neg e] at h2
      exact absurd (sl_tot h2 h1) e
  · rw [List.pairwise_flatMap]
    refine ⟨fun p _ => ?_, ?_⟩
    · unfold wantsL
      rw [List.pairwise_map]
      refine (pw.sublist List.filter_sublist).imp fun {a b} h => ?_
      unfold sl2
      rw [if_pos rfl]
      exact h
    · have nd' : ys.Pairwise (fun a b => a ≠ b) := m.nd
      refine (pw.and nd').imp fun {a b} h x hx y hy => ?_
      obtain ⟨_, _, rfl⟩ := List.mem_map.mp hx
      obtain ⟨_, _, rfl⟩ := List.mem_map.mp hy
      unfold sl2
      rw [if_neg (fun z => h.2 z.symm)]
      exact h.1
end Y

/-! k61: the law. -/
namespace Y
open PySem PySem.Spec PyProof.Rows L2
local macro_rules | `(tactic| fail) => `(tactic| ((first
  | with_reducible refine wS_seq ?_
  | with_reducible refine wS_ret ?_
  | with_reducible refine wS_set ?_
  | with_reducible refine wS_asgTup ?_
  | with_reducible refine wS_asg ?_
  | with_reducible refine wS_par ?_
  | with_reducible refine wS_drop ?_
  | with_reducible refine wS_dput ?_
  | with_reducible refine wS_fld ?_
  | with_reducible refine wS_next ?_
  | with_reducible refine wS_nextE ?_
  | with_reducible refine wS_brkE ?_
  | with_reducible refine wS_brk ?_
  | with_reducible refine wT_B ?_
  | with_reducible refine wT_Test ?_
  | with_reducible refine wT_not ?_
  | with_reducible refine wT_yes ?_
  | (with_reducible refine wE_var' ?_; refine ⟨_, rfl, ?_⟩)
  | with_reducible refine wE_int ?_
  | with_reducible refine wE_bl ?_
  | with_reducible refine wE_str ?_
  | with_reducible refine wE_non ?_
  | with_reducible refine wE_op ?_
  | with_reducible refine wE_un ?_
  | with_reducible refine wE_isi ?_
  | with_reducible refine wE_cbLen ?_
  | with_reducible refine wE_cbLenS ?_
  | with_reducible refine wE_cbLenD ?_
  | with_reducible refine wE_cbListOf ?_
  | with_reducible refine wE_cbTup ?_
  | with_reducible refine wE_isN ?_
  | with_reducible refine wE_notN ?_
  | with_reducible refine a_neg ?_
  | with_reducible refine wA_nil ?_
  | with_reducible refine wA_cons ?_
  | with_reducible refine wA_star ?_
  | with_reducible refine wE_sl ?_
  | with_reducible refine wO_none ?_
  | with_reducible refine wO_some ?_
  | with_reducible refine wE_notV ?_
  | with_reducible refine wE_dget ?_
  | with_reducible refine wE_din ?_
  | with_reducible refine wE_dnotin ?_
  | with_reducible refine wE_fld ?_
  | with_reducible refine wE_frz ?_
  | with_reducible refine wE_bmL ?_
  | with_reducible refine wE_call ?_
  | with_reducible refine wG_name ?_
  | with_reducible refine wG_tup rfl ?_
  | with_reducible refine wGs_consM ?_
  | with_reducible refine wGs_nilM ?_
  | with_reducible refine wGs_nil ?_
  | with_reducible refine wGs_cons ?_) <;> (try dsimp only)))

section
variable {P : Program} {w : World} {K : PySem.W.Frag} {mg : Str → Option Value} {base : Heap} {C I W : Addr} {t1 t2 : Tok}
def spLaw (K : PySem.W.Frag) : Sp := fun vs H Q _ => ∃ (a : Addr) (ns : List Int), vs = [.ref a] ∧ SqL K H a (ns.map V.int) ∧ ns.length ≤ 63 ∧ ∀ H', Q (.bl true) H'
/-- swapping a part -/
theorem swap_perm {α : Type} (xs : List α) (d : Nat) : (xs.take d ++ ((xs.take (d + 2)).drop d).reverse ++ xs.drop (d + 2)).Perm xs := by
  have e : xs.take d ++ (xs.take (d + 2)).drop d = xs.take (d + 2) := by
    have := List.take_append_drop d (xs.take (d + 2))
    rw [List.take_take, Nat.min_eq_left (by omega)] at this
    exact this
  have p1 : (xs.take d ++ ((xs.take (d + 2)).drop d).reverse).Perm (xs.take (d + 2)) := by
    conv => rhs; rw [← e]
    exact (List.reverse_perm _).append_left _
  have := p1.append_right (xs.drop (d + 2))
  rw [List.take_append_drop] at this
  exact this
theorem ringB_eq {ps ys : List Str} {al : Str → Str} {rw' : Str → List Str} (m : Mkt ys al rw') (h : ys.Perm ps) (zs : List Str) : ringB (ws ys al rw') ys zs = ((zs.all fun z => decide (z ∈ ps)) && ringL al rw' zs) := by
  unfold ringB ringL
  have e1 : (zs.all fun z => decide (z ∈ ys)) = zs.all fun z => decide (z ∈ ps) := by
    congr 1; funext z
    by_cases hz : z ∈ ps
    · rw [decide_eq_true hz, decide_eq_true (h.mem_iff.mpr hz)]
    · rw [decide_eq_false hz, decide_eq_false (fun q => hz (h.mem_iff.mp q))]
  rw [e1]
  cases hall : zs.all fun z => decide (z ∈ ps) with
  | false => simp
  | true =>
    have hin : ∀ z ∈ zs, z ∈ ys := fun z hz => h.mem_iff.mpr (of_decide_eq_true (List.all_eq_true.mp hall z hz))
    have e2 : ((nbrs zs).all fun e => decide (e.2 ∈ ws ys al rw' e.1)) = (nbrs zs).all fun e => decide (ix (rw' e.1) (al e.2) < ix (rw' e.1) (al e.1)) := by
      rw [Bool.eq_iff_iff, List.all_eq_true, List.all_eq_true]
      have key : ∀ e ∈ nbrs zs, (decide (e.2 ∈ ws ys al rw' e.1) = true ↔ decide (ix (rw' e.1) (al e.2) < ix (rw' e.1) (al e.1)) = true) := fun e he => by
        obtain ⟨h1, h2⟩ := nbrs_mem he
        rw [decide_eq_true_iff, decide_eq_true_iff, ws_mem m (hin _ h1)]
        exact ⟨fun h => h.2, fun h => ⟨hin _ h2, h⟩⟩
      exact ⟨fun h e he => (key e he).mp (h e he), fun h e he => (key e he).mpr (h e he)⟩
    rw [e2]
    simp
/-- the slots that a step's parts ask for -/
def G1 (s0 : Addr) : GG := none :: some (.p 0 s0) :: List.replicate 25 none
abbrev s_law : Stmt := topS 46
theorem sc_law : FnScope ["script", "stream", "step", "many", "people", "things", "base", "rows", "person", "row", "at", "made", "here", "number", "ring", "order", "odds", "one", "odd", "is_one", "later", "two", "gone", "best", "thing", "wants", "mine"] ["script"] (defScope s_law) := ⟨rfl, rfl, rfl, by decide +kernel, rfl, by decide +kernel, by decide +kernel⟩
set_option maxHeartbeats 4000000 in
theorem ok_law {f fA fB fC fD fE fF fG fH fI fJ fK fL : Addr} {fd dA dB dC dD dE dF dG dH dI dJ dK dL : FuncData} (Dd : Df K mg "law" "law" s_law f fd ["script"]) (B : BT mg) (G : GT K mg C I W t1 t2)
    (F__law_start : Fn P w K mg base 1 "_law_start" fA dA ["script"] (spStart K)) (F__law_draw : Fn P w K mg base 1 "_law_draw" fB dB ["stream", "many"] (spA K 2 Fdraw)) (F__law_a_names : Fn P w K mg base 4 "_law_a_names" fC dC ["stream", "many"] (spA K 2 Fa_names)) (F__law_mixed : Fn P w K mg base 2 "_law_mixed" fD dD ["stream", "some"] (spA K 2 Fmixed))
    (F__law_q_stock : Fn P w K mg base 6 "_law_q_stock" fE dE ["stream", "people", "things", "rows"] (spA K 4 (Fq_stock C))) (F_wanting_ring : Fn P w K mg base 3 "wanting_ring" fF dF ["stock", "allotment"] (spA K 2 (Fwanting_ring C))) (F__law_turned : Fn P w K mg base 3 "_law_turned" fG dG ["stream", "given"] (spA K 2 Fturned)) (F_order_for : Fn P w K mg base 3 "order_for" fH dH ["stock", "allotment"] (spA K 2 (Forder_for C)))
    (F__law_is_ring : Fn P w K mg base 2 "_law_is_ring" fI dI ["rows", "given", "ring"] (spA K 3 Flaw_is_ring)) (F_is_wanting_ring : Fn P w K mg base 3 "is_wanting_ring" fJ dJ ["stock", "allotment", "thing"] (spA K 3 (Fis_wanting_ring C))) (F__law_loose : Fn P w K mg base 2 "_law_loose" fK dK ["stream", "thing"] (spA K 2 Floose)) (F__law_same : Fn P w K mg base 3 "_law_same" fL dL ["found", "due"] (spA K 2 fun ss O P => Fsame2 ss O P ∨ Fsame0 ss O P))
    {fM fN : Addr} {dM dN : FuncData} (F_is_order_for : Fn P w K mg base 3 "is_order_for" fM dM ["stock", "allotment", "thing"] (spA K 3 (Fis_order_for C))) (F_wanting : Fn P w K mg base 3 "wanting" fN dN ["stock", "allotment"] (spA K 2 (Fwanting C))) :
    FnOk P w K mg base CX0 7 f fd ["script"] (spLaw K) := by
  refine Dd.fn.ok sc_law (fun vs H Q E h => ?_) (fun cdv A outer s H vs Q E hr h => ?_)
  · obtain ⟨a, ns, rfl, _⟩ := h
    rfl
  have hu := hu_of hr
  have hu64 := hr.units
  obtain ⟨a, ns, rfl, hS, hlen, kq⟩ := h
  refine ⟨_, (pss_cons (ps_set (i := 1) sc_law.nd rfl (Or.inl rfl) (pe_fn F__law_start (hr.mono (by decide)) (by rfl) (pa_cons (pv 0) pa_nil)))
  (pss_cons (ps_for PassesOwn.never rfl (pi_range1 (by rfl) B.range (pa_cons pe_int pa_nil)) (pg_name (i := 2) sc_law.nd rfl (Or.inl rfl))
  (pss_cons (ps_set (i := 3) sc_law.nd rfl (Or.inl rfl) (pe_fn F__law_draw (hr.mono (by decide)) (by rfl) (pa_cons (pv 1) (pa_cons pe_int pa_nil))))
  (pss_cons (ps_par (i := 4) (j := 5) rfl sc_law.nd rfl rfl (by decide) rfl rfl (pa_cons (pe_fn F__law_a_names (hr.mono (by decide)) (by rfl) (pa_cons (pv 1) (pa_cons (pv 3) pa_nil))) (pa_cons (pe_fn F__law_mixed (hr.mono (by decide)) (by rfl) (pa_cons (pv 1) (pa_cons (pe_fn F__law_a_names (hr.mono (by decide)) (by rfl) (pa_cons (pv 1) (pa_cons (pv 3) pa_nil))) pa_nil))) pa_nil)) (by rfl))
  (pss_cons (ps_asg (pe_tup (pa_cons (pe_fn F__law_mixed (hr.mono (by decide)) (by rfl) (pa_cons (pv 1) (pa_cons (pv 5) pa_nil))) (pa_cons pe_dnewK pa_nil))) (tupK K 2 rfl (pgs_cons (pg_name (i := 6) sc_law.nd rfl (Or.inl rfl)) (pgs_cons (pg_name (i := 7) sc_law.nd rfl (Or.inr rfl)) pgs_nil))))
  (pss_cons (ps_for PassesOwn.never rfl (seqK K (pv 4)) (pg_name (i := 8) sc_law.nd rfl (Or.inl rfl))
  (pss_cons (ps_set (i := 9) sc_law.nd rfl (Or.inl rfl) (pe_ifExp (pt_cmpR op_eq (pe_fn F__law_draw (hr.mono (by decide)) (by rfl) (pa_cons (pv 1) (pa_cons pe_int pa_nil))) pe_int (nomark _)) (pe_callTy (listOfK K) (by rfl) B.list (by decide +kernel) (pa_cons (pv 6) pa_nil)) (pe_fn F__law_mixed (hr.mono (by decide)) (by rfl) (pa_cons (pv 1) (pa_cons (pv 5) pa_nil)))))
  (pss_cons (ps_set (i := 10) sc_law.nd rfl (Or.inl rfl) (pe_fn F__law_draw (hr.mono (by decide)) (by rfl) (pa_cons (pv 1) (pa_cons (pe_callB (call_max2 rfl) (by rfl) B.max (by decide +kernel) (pa_cons pe_int (pa_cons (pe_op op_sub (pv 3) pe_int) pa_nil))) pa_nil))))
  (pss_one (ps_dput hu (pv 7) (pv 8) (pe_op op_cat (pe_op op_cat (pe_slice (slLK K) (pv 9) po_none (po_some (pv 10))) (revK K (pe_slice (slLK K) (pv 9) (po_some (pv 10)) (po_some (pe_op op_add (pv 10) pe_int))))) (pe_slice (slLK K) (pv 9) (po_some (pe_op op_add (pv 10) pe_int)) po_none)) rfl)))))
  (pss_cons (ps_frz (i := 7) (ps_asg (pe_tup (pa_cons (pe_fn F__law_q_stock (hr.mono (by decide)) (by rfl) (pa_cons (pv 1) (pa_cons (pv 4) (pa_cons (pv 5) (pa_cons (pv 7) pa_nil))))) (pa_cons (pe_frz (dictZipK K rfl (by rfl) B.dict (by rfl) B.zip (pa_cons (pv 4) (pa_cons (pe_fn F__law_mixed (hr.mono (by decide)) (by rfl) (pa_cons (pv 1) (pa_cons (pv 5) pa_nil))) pa_nil)))) pa_nil))) (tupK K 2 rfl (pgs_cons (pg_name (i := 11) sc_law.nd rfl (Or.inl rfl)) (pgs_cons (pg_name (i := 12) sc_law.nd rfl (Or.inr rfl)) pgs_nil)))))
  (pss_cons (ps_for PassesOwn.never rfl (pi_range1 (by rfl) B.range (pa_cons (pe_op op_add (pe_op op_mul (pv 3) (pv 3)) pe_int) pa_nil)) (pg_name (i := 13) sc_law.nd rfl (Or.inl rfl))
  (pss_cons (ps_set (i := 14) sc_law.nd rfl (Or.inl rfl) (pe_fn F_wanting_ring (hr.mono (by decide)) (by rfl) (pa_cons (pv 11) (pa_cons (pe_fn F__law_turned (hr.mono (by decide)) (by rfl) (pa_cons (pv 1) (pa_cons (pv 12) pa_nil))) pa_nil))))
  (pss_cons (ps_set (i := 15) sc_law.nd rfl (Or.inl rfl) (pe_fn F_order_for (hr.mono (by decide)) (by rfl) (pa_cons (pv 11) (pa_cons (pv 12) pa_nil))))
  (pss_cons (ps_if (pt_cmpR op_eq (pe_cmp (pc_isN (pv 14)) rfl) (pe_cmp (pc_isN (pv 15)) rfl) (nomark _)) (pss_one (ps_ret pe_bl)) pss_nil)
  (pss_cons (ps_if (pt_cmp (pc_isN (pv 14))) (pss_one ps_break) pss_nil)
  (pss_cons (ps_if (PW.pt (pw_or (pt_not (pt_val (pe_fn F__law_is_ring (hr.mono (by decide)) (by rfl) (pa_cons (pv 7) (pa_cons (pv 12) (pa_cons (pv 14) pa_nil)))))) (pw_or1 (pt_not (pt_val (pe_fn F_is_wanting_ring (hr.mono (by decide)) (by rfl) (pa_cons (pv 11) (pa_cons (pv 12) (pa_cons (pe_fn F__law_loose (hr.mono (by decide)) (by rfl) (pa_cons (pv 1) (pa_cons (pv 14) pa_nil))) pa_nil))))))))) (pss_one (ps_ret pe_bl)) pss_nil)
  (pss_cons (ps_set (i := 16) sc_law.nd rfl (Or.inl rfl) (pe_lst (pa_cons (pe_op op_cat (pv 14) (pv 14)) (pa_cons (pe_slice (slLK K) (pv 14) po_none (po_some pe_int)) (pa_cons (revK K (pv 14)) (pa_cons (pe_op op_cat (pv 14) (pe_lst (pa_cons pe_str pa_nil))) (pa_cons pe_non (pa_cons (pe_lc (own := [("one", 17)]) rfl sc_law.nd (seqK K (pv 14)) (blkOk_by (by first | decide +kernel | rfl)) (fun _ _ _ _ _ => (pg_name (i := 17) sc_law.nd rfl (by first | exact Or.inl rfl | exact Or.inr rfl))) (fun _ _ _ _ _ => pts_nil) (fun _ _ _ _ _ => (pe_dget hu (pv 12) (pv 17) (fun _ _ => rfl)))) pa_nil))))))))
  (pss_cons (ps_for PassesOwn.never rfl (seqK K (pv 16)) (pg_name (i := 18) sc_law.nd rfl (Or.inl rfl))
  (pss_cons (ps_set (i := 19) sc_law.nd rfl (Or.inl rfl) (pe_and (pe_callB (isiK K) (by rfl) B.isinstance (by decide +kernel) (pa_cons (pv 18) (pa_cons (bty "list" (by rfl) B.list (by decide +kernel)) pa_nil))) (pe_and (pe_callB (allK K rfl) (by rfl) B.all (by decide +kernel) (pa_cons (pe_lc (own := [("one", 17)]) rfl sc_law.nd (seqK K (pv 18)) (blkOk_by (by first | decide +kernel | rfl)) (fun _ _ _ _ _ => (pg_name (i := 17) sc_law.nd rfl (by first | exact Or.inl rfl | exact Or.inr rfl))) (fun _ _ _ _ _ => pts_nil) (fun _ _ _ _ _ => (pe_cmp (pc_din hu (pv 17) (pv 7))))) pa_nil)) (pe_one (pe_fn F__law_is_ring (hr.mono (by decide)) (by rfl) (pa_cons (pv 7) (pa_cons (pv 12) (pa_cons (pv 18) pa_nil))))))))
  (pss_one (ps_if (pt_not (pt_val (pe_fn F__law_same (hr.mono (by decide)) (by rfl) (pa_cons (pe_fn F_is_wanting_ring (hr.mono (by decide)) (by rfl) (pa_cons (pv 11) (pa_cons (pv 12) (pa_cons (pv 18) pa_nil)))) (pa_cons (pv 19) pa_nil))))) (pss_one (ps_ret pe_bl)) pss_nil))))
  (pss_cons (ps_set (i := 20) sc_law.nd rfl (Or.inl rfl) (pe_callTy call_dD (by rfl) B.dict (by decide +kernel) (pa_cons (pv 12) pa_nil)))
  (pss_cons (ps_for PassesOwn.never rfl (zipK K (by rfl) B.zip (pa_cons (pv 14) (pa_cons (pe_op op_cat (pe_slice (slLK K) (pv 14) (po_some pe_int) po_none) (pe_slice (slLK K) (pv 14) po_none (po_some pe_int))) pa_nil))) (tupK K 2 rfl (pgs_cons (pg_name (i := 17) sc_law.nd rfl (Or.inr rfl)) (pgs_cons (pg_name (i := 21) sc_law.nd rfl (Or.inl rfl)) pgs_nil)))
  (pss_one (ps_dput hu (pv 20) (pv 17) (pe_dget hu (pv 12) (pv 21) (fun _ _ => rfl)) rfl)))
  (pss_one (ps_frz (i := 20) (ps_set (i := 12) sc_law.nd rfl (Or.inr rfl) (pv 20))))))))))))))
  (pss_cons (ps_set (i := 22) sc_law.nd rfl (Or.inr rfl) (pe_lst pa_nil))
  (pss_cons (ps_for PassesOwn.never rfl (seqK K (pv 15)) (pg_name (i := 8) sc_law.nd rfl (Or.inl rfl))
  (pss_cons (ps_set (i := 23) sc_law.nd rfl (Or.inl rfl) (pe_ix (ixK K) (pe_lc (own := [("thing", 24)]) rfl sc_law.nd (seqK K (pe_dget hu (pv 7) (pv 8) (fun _ _ => rfl))) (blkOk_by (by first | decide +kernel | rfl)) (fun _ _ _ _ _ => (pg_name (i := 24) sc_law.nd rfl (by first | exact Or.inl rfl | exact Or.inr rfl))) (fun _ _ _ _ _ => (pts_one (pt_cmpR (notInK K) (pv 24) (pv 22) (by rfl)))) (fun _ _ _ _ _ => (pv 24))) pe_int (fun _ _ => rfl)))
  (pss_cons (ps_expr (bmK K PySem.F.plainAttrs_list PySem.F.slot_list_append PySem.F.type_list_append mt_append (pv 22) (pa_cons (pv 23) pa_nil)))
  (pss_one (ps_if (pt_cmpR op_ne (pe_dget hu (pv 12) (pv 8) (fun _ _ => rfl)) (pv 23) (nomark _)) (pss_one (ps_ret pe_bl)) pss_nil)))))
  (pss_cons (ps_if (PW.pt (pw_or (pt_cmpR (neDK K hu64) (pe_callB (sortedSK K) (by rfl) B.sorted (by decide +kernel) (pa_cons (pv 15) pa_nil)) (pe_callB (sortedSK K) (by rfl) B.sorted (by decide +kernel) (pa_cons (pv 4) pa_nil)) (nomark _)) (pw_or1 (pt_not (pt_val (pe_fn F_is_order_for (hr.mono (by decide)) (by rfl) (pa_cons (pv 11) (pa_cons (pv 12) (pa_cons (pe_callTy (tupRK K) (by rfl) B.tuple (by decide +kernel) (pa_cons (pv 15) pa_nil)) pa_nil))))))))) (pss_one (ps_ret pe_bl)) pss_nil)
  (pss_cons (ps_set (i := 25) sc_law.nd rfl (Or.inl rfl) (pe_lst pa_nil))
  (pss_cons (ps_for PassesOwn.never rfl (seqK K (pe_callB (sortedSK K) (by rfl) B.sorted (by decide +kernel) (pa_cons (pv 4) pa_nil))) (pg_name (i := 17) sc_law.nd rfl (Or.inr rfl))
  (pss_cons (ps_set (i := 26) sc_law.nd rfl (Or.inr rfl) (bmK K PySem.F.plainAttrs_list PySem.F.slot_list_index PySem.F.type_list_index (indexK K) (pe_dget hu (pv 7) (pv 17) (fun _ _ => rfl)) (pa_cons (pe_dget hu (pv 12) (pv 17) (fun _ _ => rfl)) pa_nil)))
  (pss_one (ps_expr (bmK K PySem.F.plainAttrs_list PySem.F.slot_list_extend PySem.F.type_list_extend mt_extend (pv 25) (pa_cons (pe_lc (own := [("two", 21)]) rfl sc_law.nd (seqK K (pe_callB (sortedSK K) (by rfl) B.sorted (by decide +kernel) (pa_cons (pv 4) pa_nil))) (blkOk_by (by first | decide +kernel | rfl)) (fun _ _ _ _ _ => (pg_name (i := 21) sc_law.nd rfl (by first | exact Or.inl rfl | exact Or.inr rfl))) (fun _ _ _ _ _ => (pts_one (pt_cmpR op_lt (bmK K PySem.F.plainAttrs_list PySem.F.slot_list_index PySem.F.type_list_index (indexK K) (pe_dget hu (pv 7) (pv 17) (fun _ _ => rfl)) (pa_cons (pe_dget hu (pv 12) (pv 21) (fun _ _ => rfl)) pa_nil)) (pv 26) (nomark _)))) (fun _ _ _ _ _ => (pe_tup (pa_cons (pv 17) (pa_cons (pv 21) pa_nil))))) pa_nil))))))
  (pss_one (ps_if (pt_not (pt_val (pe_fn F__law_same (hr.mono (by decide)) (by rfl) (pa_cons (pe_fn F_wanting (hr.mono (by decide)) (by rfl) (pa_cons (pv 11) (pa_cons (pv 12) pa_nil))) (pa_cons (pv 25) pa_nil))))) (pss_one (ps_ret pe_bl)) pss_nil))))))))))))))
  (pss_one (ps_ret pe_bl)))), ?_⟩
  refine ⟨_, rfl, a, ns, rfl, hS, hlen, fun H1 s0 cl st ne => ?_⟩
  have hOwn : OwnOk K H1 [(0, s0, .sm cl 0)] := ⟨by show [s0, cl].Nodup; simpa using ne, fun e he => by
    rcases List.mem_cons.mp he with rfl | he
    · exact st
    · simp at he⟩
  show tSeq _ _ _ _ _
  refine (?key : wS K _ (G1 s0) [(0, s0, .sm cl 0)] { nx := fun _ _ => False, rt := fun s _ => s = .d (.bl true) }) _ H1 _ hOwn ?sl ⟨fun _ _ _ _ p => p.elim, fun v H' s O' p _ _ hv => ?rt, fun _ _ _ _ p => p.elim, fun _ _ _ _ p => p.elim⟩
  case sl =>
    refine ⟨rfl, fun i s e => ?_⟩
    match i, e with
    | 1, e => cases e; exact ⟨_, rfl, rfl⟩
    | 0, e => cases e
    | i + 2, e =>
      have : (List.replicate 25 (none : Option Sl))[i]? = some (some s) := e
      rw [List.getElem?_replicate] at this
      split at this <;> cases this
  case rt =>
    subst p
    cases hv
    exact kq H'
  -- the steps
  repeat fail
  refine wS_for (wI_rng1 ?_)
  repeat fail
  refine ⟨_, rfl, by decide, by decide, fun i Γ' O' => ∃ n, n ≤ i * 100000 ∧ O' = [(0, s0, .sm cl n)] ∧ GLe (G1 s0) Γ', ⟨0, by omega, rfl, ⟨rfl, trivial⟩⟩, fun _ _ _ _ => trivial, ?_, fun Γ' O' _ => ?_⟩
  rotate_left 1
  · repeat fail
  rintro i d Γ' O' hd ⟨n0, hn0, rfl, le⟩
  obtain ⟨hi, rfl⟩ := rngD_get hd
  have hi3 : i < 3 := hi
  refine wG_le le ?_
  repeat fail
  refine ⟨rfl, s0, cl, n0, 11, rfl, rfl, by decide, by decide, by omega, fun m hm => ?_⟩
  have hm10 : m ≤ 10 := by omega
  repeat fail
  refine ⟨rfl, s0, cl, n0 + 1, m, rfl, rfl, by omega, hm10, fun ps hpl hps => ?_⟩
  repeat fail
  refine ⟨rfl, s0, cl, n0 + 1 + m, m, rfl, rfl, by omega, hm10, fun ts0 htl hts0 => ?_⟩
  repeat fail
  refine ⟨rfl, s0, cl, n0 + 1 + m + m, _, sD ts0, rfl, rfl, by rw [List.length_map]; omega, .lst _, by rw [List.length_map]; omega, fun es hes => ?_⟩
  obtain ⟨ts, rfl, hts1⟩ := perm_map_inv hes ts0 rfl
  have hts : NamesOk ts := ⟨hts1.nodup_iff.mpr hts0.nd, fun z hz => hts0.ok z (hts1.mem_iff.mp hz), by rw [hts1.length_eq]; exact hts0.few⟩
  have htl2 : ts.length = m := by rw [hts1.length_eq, htl]
  rw [List.length_map, htl]
  repeat fail
  refine ⟨_, _, rfl, ?_⟩
  repeat fail
  refine ⟨rfl, s0, cl, n0 + 1 + m + m + m, _, sD ts, rfl, rfl, by rw [List.length_map]; omega, .lst _, by rw [List.length_map]; omega, fun es hes => ?_⟩
  obtain ⟨bs, rfl, hbs⟩ := perm_map_inv hes ts rfl
  rw [List.length_map, htl2]
  repeat fail
  refine wE_dnewOwn 1 fun ra => ?_
  repeat fail
  refine ⟨rfl, by decide, ?_⟩
  repeat fail
  refine wS_for (wI_seq ?_)
  repeat fail
  refine ⟨_, .lst _, fun i Γ' O' => ∃ (rw : Str → List Str) (n : Nat), n ≤ n0 + 100 + i * 30 ∧ (∀ p ∈ ps.take i, (rw p).Perm ts) ∧ O' = [(1, ra, .ok (funD (lstS rw) (ps.take i))), (0, s0, .sm cl n)] ∧ GLe (none :: some (.p 0 s0) :: none :: some (.d (.int (m : Int))) :: some (.d (.lst (sD ps))) :: some (.d (.lst (sD ts))) :: some (.d (.lst (sD bs))) :: some (.p 1 ra) :: List.replicate 19 none) Γ', ⟨fun _ => [], n0 + 1 + m + m + m + m, by omega, by simp, rfl, ⟨rfl, rfl, rfl, rfl, rfl, rfl, trivial⟩⟩, fun _ _ _ _ => .lst _, ?_, ?_⟩
  · rintro i d Γ' O' hd ⟨rw', n1, hn1, hrw, rfl, le⟩
    obtain ⟨z, hz, hzi, rfl⟩ := mem_of_strs hd
    have hil := (List.getElem?_eq_some_iff.mp hzi).1
    have hno := not_mem_take hps.nd hzi
    refine wG_le le ?_
    repeat fail
    refine wE.imp (P := fun s O1 => ∃ (row : List Str) (n' : Nat), row.Perm ts ∧ n' ≤ n1 + 12 ∧ s = .d (.lst (sD row)) ∧ O1 = [(1, ra, .ok (funD (lstS rw') (ps.take i))), (0, s0, .sm cl n')]) ?_ ?_
    · refine wE_if ?_
      repeat fail
      refine ⟨rfl, s0, cl, n1, 2, rfl, rfl, by decide, by decide, by omega, fun k hk => ?_⟩
      repeat fail
      refine a_eqInt ⟨_, rfl, fun _ => ?_, fun _ => ?_⟩
      · repeat fail
        exact a_listOf (.lst _) ⟨bs, n1 + 1, hbs, by omega, rfl, rfl⟩
      · repeat fail
        refine ⟨rfl, s0, cl, n1 + 1, _, sD ts, rfl, rfl, by rw [List.length_map]; omega, .lst _, by rw [List.length_map]; omega, fun es hes => ?_⟩
        obtain ⟨row, rfl, hrow⟩ := perm_map_inv hes ts rfl
        exact ⟨row, n1 + 1 + (sD ts).length, hrow, by rw [List.length_map]; omega, rfl, rfl⟩
    · rintro s O1 ⟨row, n2, hrow, hn2, rfl, rfl⟩
      have hrl : row.length = m := by rw [hrow.length_eq, htl2]
      repeat fail
      refine wE_cb ?_
      repeat fail
      refine a_sub ?_
      repeat fail
      refine a_max2 ?_
      repeat fail
      refine ⟨rfl, s0, cl, n2, _, rfl, rfl, by split <;> omega, by split <;> omega, by omega, fun k hk => ?_⟩
      repeat fail
      refine ⟨_, rfl, ?_⟩
      refine a_slL (.lst _) ?_
      rw [cutD_to, ← List.map_take]
      repeat fail
      refine wE_revL ?_
      repeat fail
      refine ⟨_, rfl, ?_⟩
      repeat fail
      refine a_add ⟨_, rfl, ?_⟩
      refine a_slL (.lst _) ?_
      rw [show (k : Int) + 2 = ((k + 2 : Nat) : Int) from rfl, cutD_mid, ← List.map_take, ← List.map_drop]
      refine ⟨_, .lst _, ?_⟩
      rw [← List.map_reverse]
      refine a_cat (.lst _) (.lst _) (by simp only [List.length_map, List.length_take, List.length_drop, List.length_reverse]; omega) ?_
      rw [← List.map_append]
      repeat fail
      refine a_add ⟨_, rfl, ?_⟩
      repeat fail
      refine a_slL (.lst _) ?_
      rw [show (k : Int) + 2 = ((k + 2 : Nat) : Int) from rfl, cutD_from, ← List.map_drop]
      refine a_cat (.lst _) (.lst _) (by simp only [List.length_map, List.length_append, List.length_take, List.length_drop, List.length_reverse]; omega) ?_
      rw [← List.map_append]
      repeat fail
      generalize hnew : row.take k ++ ((row.take (k + 2)).drop k).reverse ++ row.drop (k + 2) = new
      have hnp : new.Perm ts := by rw [← hnew]; exact (swap_perm row k).trans hrow
      refine ⟨_, 1, ra, _, z, rfl, rfl, rfl, rfl, by rw [funD_len, List.length_take]; omega, fun p => if p = z then new else rw' p, n2 + 1, by omega, fun p hp => ?_, ?_, ⟨rfl, rfl, rfl, rfl, rfl, rfl, trivial⟩⟩
      · rw [take_next hzi] at hp
        rcases List.mem_append.mp hp with hp | hp
        · have hne : ¬ p = z := fun e => hno (by rw [← e]; exact hp)
          show (if p = z then new else rw' p).Perm ts
          rw [if_neg hne]; exact hrw p hp
        · simp at hp; subst hp
          show (if p = p then new else rw' p).Perm ts
          rw [if_pos rfl]; exact hnp
      · have e1 : funD (lstS rw') (ps.take i) = funD (lstS fun p => if p = z then new else rw' p) (ps.take i) := funD_congr fun p hp => by
          have hne : ¬ p = z := fun e => hno (by rw [← e]; exact hp)
          show D.lst (sD (rw' p)) = D.lst (sD (if p = z then new else rw' p))
          rw [if_neg hne]
        have e2 : putD (funD (lstS rw') (ps.take i)) z (.lst (sD new)) = funD (lstS fun p => if p = z then new else rw' p) (ps.take (i + 1)) := by
          rw [e1, show D.lst (sD new) = lstS (fun p => if p = z then new else rw' p) z by show D.lst (sD new) = D.lst (sD (if z = z then new else rw' z)); rw [if_pos rfl], putD_funD hno, take_next hzi]
        show [(1, ra, OD.ok (putD (funD (lstS rw') (ps.take i)) z (.lst (sD new)))), (0, s0, .sm cl (n2 + 1))] = _
        rw [e2]
  · rintro Γ' O' ⟨rw', n1, hn1, hrw, hO, le⟩
    have hpl' : (sD ps).length = m := by rw [List.length_map, hpl]
    have htk : ps.take (sD ps).length = ps := List.take_of_length_le (by rw [List.length_map]; exact Nat.le_refl _)
    rw [htk] at hrw hO
    subst hO
    have hn1' : n1 ≤ n0 + 400 := by rw [hpl'] at hn1; omega
    refine wS_le le ?_
    refine wS_seq (wS_frz (l := 1) (a := ra) rfl rfl ?_)
    repeat fail
    refine ⟨rfl, s0, cl, n1, ps, ts, rw', rfl, rfl, by omega, hps, hts, by omega, ⟨hrw⟩, fun ys hst => ?_⟩
    repeat fail
    refine wE_dictZip 2 ?_
    repeat fail
    refine ⟨rfl, s0, cl, _, _, sD ts, rfl, rfl, by rw [List.length_map]; omega, .lst _, by rw [List.length_map]; omega, fun es hes => ?_⟩
    obtain ⟨us, rfl, hus⟩ := perm_map_inv hes ts rfl
    obtain ⟨al, hal1, hal2⟩ := zip_fun (ts := us) hps.nd (by rw [hus.length_eq]; omega)
    repeat fail
    refine ⟨_, _, ps, sD us, rfl, .lst _, .lst _, fun a => ⟨2, a, _, rfl, rfl, ?_⟩⟩
    rw [hal1, putAll_funD hps.nd]
    repeat fail
    refine ⟨rfl, by decide, ?_⟩
    repeat fail
    have hmm : m * m ≤ 100 := Nat.mul_le_mul hm10 hm10
    refine wS_for (wI_rng1 ?_)
    repeat fail
    refine a_mul (.inl ⟨by omega, by omega⟩) ?_
    repeat fail
    refine a_add ?_
    repeat fail
    refine ⟨_, rfl, by omega, by omega, fun i Γ' O' => ∃ (al : Str → Str) (n : Nat), AlOk ps ts al ∧ pot rw' al ps + i ≤ m * m ∧ n ≤ n0 + 1000 + i * 200 ∧ O' = [(0, s0, .sm cl n)] ∧ GLe (none :: some (.p 0 s0) :: none :: some (.d (.int (m : Int))) :: some (.d (.lst (sD ps))) :: some (.d (.lst (sD ts))) :: some (.d (.lst (sD bs))) :: some (.d (.dct (funD (lstS rw') ps))) :: none :: none :: none :: some (.d (stockD C ps ts ys rw')) :: some (.d (.dct (funD (strF al) ps))) :: List.replicate 14 none) Γ', ⟨al, n1 + 2 * ps.length + 2 + (sD ts).length, ⟨by rw [hal2]; exact hus⟩, ?_, by rw [List.length_map]; omega, rfl, ⟨rfl, rfl, rfl, rfl, rfl, rfl, rfl, rfl, trivial⟩⟩, fun _ _ _ _ => trivial, ?_, ?_⟩
    · have := pot_le (rw' := rw') (al := al) (ps := ps) (m := m) (fun p hp => by
        by_cases h : al p ∈ rw' p
        · have := ix_lt h
          rw [(hrw p hp).length_eq] at this
          omega
        · have hz : al p ∈ ts := hus.mem_iff.mp (by rw [← hal2]; exact List.mem_map.mpr ⟨p, hp, rfl⟩)
          exact absurd ((hrw p hp).mem_iff.mpr hz) h)
      rw [hpl] at this
      omega
    · rintro i d Γ' O' hd ⟨al, n, hal, hpot, hn, rfl, le⟩
      obtain ⟨hi, rfl⟩ := rngD_get hd
      have hi2 : i ≤ 100 := by omega
      have mk := mkt_of hst hal
      refine wG_le le ?_
      repeat fail
      refine ⟨rfl, s0, cl, n, ps, strF al, rfl, rfl, by omega, by omega, hps.nd, fun js hjs => ?_⟩
      repeat fail
      refine ⟨rfl, _, _, ps, ts, ys, rw', al, rfl, ⟨js, rfl, rfl, hst, hal, hjs⟩, fun ord hg => ?_, fun left r hb hr => ?_⟩
      · repeat fail
        refine ⟨rfl, _, _, ps, ts, ys, rw', al, rfl, ⟨ps, rfl, rfl, hst, hal, List.Perm.refl _⟩, fun ord2 hg2 => ?_, fun left hb => (good_not_bad hg hb).elim⟩
        repeat fail
        refine wS_ifF ?_
        repeat fail
        refine a_eqBl ⟨_, rfl, rfl, ?_⟩
        repeat fail
        refine wS_ifT ?_
        repeat fail
        refine ⟨_, rfl, rfl, ?_⟩
        repeat fail
        have hysp : ∀ p, p ∈ ys ↔ p ∈ ps := fun p => hst.ys.mem_iff
        have hol : ord2.length = ps.length := by rw [hg2.perm.length_eq, hst.ys.length_eq]
        have ndo : ord2.Nodup := hg2.perm.nodup_iff.mpr mk.nd
        have hop : ∀ p ∈ ord2, p ∈ ps := fun p hp => (hysp p).mp (hg2.perm.mem_iff.mp hp)
        have hmemr : ∀ p ∈ ps, ∀ q ∈ ps, al q ∈ rw' p := fun p hp q hq => mk.rmem p ((hysp p).mpr hp) q ((hysp q).mpr hq)
        have hrlen : ∀ p ∈ ps, (rw' p).length ≤ 20 := fun p hp => by rw [(hrw p hp).length_eq]; omega
        refine wE_lstOwn 3 ?_
        repeat fail
        refine ⟨[], rfl, by decide, fun ga => ?_⟩
        repeat fail
        refine wS_for (wI_seq ?_)
        repeat fail
        refine ⟨_, .lst _, fun j Γ' O' => O' = [(3, ga, .ol (sD ((ord2.take j).map al))), (0, s0, .sm cl (n + ps.length))] ∧ GLe (none :: some (.p 0 s0) :: none :: some (.d (.int (m : Int))) :: some (.d (.lst (sD ps))) :: some (.d (.lst (sD ts))) :: some (.d (.lst (sD bs))) :: some (.d (.dct (funD (lstS rw') ps))) :: none :: none :: none :: some (.d (stockD C ps ts ys rw')) :: some (.d (.dct (funD (strF al) ps))) :: none :: none :: some (.d (.lst (sD ord2))) :: none :: none :: none :: none :: none :: none :: some (.p 3 ga) :: List.replicate 4 none) Γ', ⟨rfl, ⟨rfl, rfl, rfl, rfl, rfl, rfl, rfl, rfl, rfl, rfl, trivial⟩⟩, fun _ _ _ _ => .lst _, ?_, ?_⟩
        · rintro j d Γ' O' hd ⟨rfl, le⟩
          obtain ⟨z, hz, hzi, rfl⟩ := mem_of_strs hd
          have hzp := hop z hz
          have hil := (List.getElem?_eq_some_iff.mp hzi).1
          obtain ⟨rr, hrr⟩ := first_left mk hg2 hzi
          refine wG_le le ?_
          repeat fail
          refine wE_lcS (tgk_name (by decide)) (wI_seq ?_)
          repeat fail
          refine ⟨_, z, _, .dct _, rfl, lookD_in hzp, _, .lst _, rw' z, fun t => if (!decide (t ∈ (ord2.take j).map al)) = true then some (.str t) else none, rfl, by have := hrlen z hzp; omega, fun _ _ => .lst _, fun t ht acc c => ?_, ?_⟩
          · repeat fail
            refine a_notInStrs (.own (l := 3) (a := ga) rfl) ⟨_, rfl, fun hb => ?_, fun hb => ?_⟩
            · repeat fail
              exact ⟨rfl, _, rfl, if_pos hb⟩
            · exact ⟨rfl, if_neg (by rw [hb]; decide)⟩
          · rw [filterMap_pred, hrr]
            repeat fail
            refine a_ix (.lst _) (i := 0) (d := .str (al z)) atI_zero ?_
            repeat fail
            refine ⟨_, .own (l := 3) (a := ga) rfl, ?_⟩
            repeat fail
            refine a_append (l := 3) (a := ga) (ds := sD ((ord2.take j).map al)) rfl (by rw [List.length_map, List.length_map, List.length_take]; omega) ?_
            refine wS_ifF ?_
            repeat fail
            refine ⟨_, z, _, .dct _, rfl, lookD_in hzp, ?_⟩
            repeat fail
            refine a_neStr ⟨_, rfl, by simp, ?_⟩
            repeat fail
            refine ⟨?_, ⟨rfl, rfl, rfl, rfl, rfl, rfl, rfl, rfl, rfl, rfl, trivial⟩⟩
            rw [take_next hzi]
            show [(3, ga, OD.ol (sD ((ord2.take j).map al) ++ [D.str (al z)])), _] = [(3, ga, OD.ol (((ord2.take j ++ [z]).map al).map D.str)), _]
            rw [List.map_append, List.map_append]
            rfl
        · rintro Γ' O' ⟨hO, le⟩
          subst hO
          refine wS_drop' (l := 3) (wS_le le ?_)
          refine wS_seq (wS_ifF (wT_orF ?_))
          repeat fail
          refine wE_cb ?_
          repeat fail
          refine a_sorted (.lst _) (by omega) fun as has hsa => ?_
          refine wE_cb ?_
          repeat fail
          refine a_sorted (.lst _) (by omega) fun bs2 hbs2 hsb => ?_
          have hab : as = bs2 := sorted_unique (has.trans ((hg2.perm.trans hst.ys).trans hbs2.symm)) hsa hsb
          subst hab
          have hasok : ∀ z ∈ as, PyData.strOk z = true := fun z hz => (hps.ok z (hbs2.mem_iff.mp hz)).ok
          refine a_neStrs (xs := as) (ys := as) (.lst _) (.lst _) hasok hasok ⟨_, rfl, by simp, ?_⟩
          repeat fail
          refine a_tuple (.lst _) ?_
          repeat fail
          refine ⟨rfl, _, _, .rt (sD ord2), ps, ts, ys, ord2, rw', al, rfl, ⟨ps, rfl, rfl, hst, hal, List.Perm.refl _⟩, .rt _, hg2, _, rfl, rfl, ?_⟩
          repeat fail
          refine wE_lstOwn 4 ?_
          repeat fail
          refine ⟨[], rfl, by decide, fun wa => ?_⟩
          repeat fail
          refine wS_for (wI_seq (wE_cb ?_))
          repeat fail
          refine a_sorted (.lst _) (by omega) fun ss hss hso => ?_
          have hsy : ss = ys := sorted_unique (hss.trans hst.ys.symm) hso hst.so
          subst hsy
          refine ⟨_, .lst _, fun j Γ' O' => O' = [(4, wa, .ol (((ss.take j).flatMap (wantsL ss al rw')).map pairD)), (0, s0, .sm cl (n + ps.length))] ∧ GLe (none :: some (.p 0 s0) :: none :: some (.d (.int (m : Int))) :: some (.d (.lst (sD ps))) :: some (.d (.lst (sD ts))) :: some (.d (.lst (sD bs))) :: some (.d (.dct (funD (lstS rw') ps))) :: none :: none :: none :: some (.d (stockD C ps ts ss rw')) :: some (.d (.dct (funD (strF al) ps))) :: none :: none :: some (.d (.lst (sD ord2))) :: none :: none :: none :: none :: none :: none :: none :: none :: none :: some (.p 4 wa) :: [none]) Γ', ⟨rfl, ⟨rfl, rfl, rfl, rfl, rfl, rfl, rfl, rfl, rfl, rfl, trivial⟩⟩, fun _ _ _ _ => .lst _, ?_, ?_⟩
          · rintro j d Γ' O' hd ⟨rfl, le⟩
            obtain ⟨z, hz, hzi, rfl⟩ := mem_of_strs hd
            have hzp := (hysp z).mp hz
            refine wG_le le ?_
            repeat fail
            refine ⟨_, z, _, .dct _, rfl, lookD_in hzp, ?_⟩
            refine ⟨_, .lst _, ?_⟩
            repeat fail
            refine ⟨_, z, _, .dct _, rfl, lookD_in hzp, ?_⟩
            repeat fail
            refine a_index (ns := rw' z) (.lst _) (ix_at (hmemr z hzp z hzp)) (fun _ hm => ix_first hm) ?_
            repeat fail
            refine ⟨_, .own (l := 4) (a := wa) rfl, ?_⟩
            refine wA_cons (wE_lcS (tgk_name (by decide)) (wI_seq (wE_cb ?_)))
            repeat fail
            refine a_sorted (.lst _) (by omega) fun ss2 hss2 hso2 => ?_
            have hsy2 : ss2 = ss := sorted_unique (hss2.trans hst.ys.symm) hso2 hst.so
            subst hsy2
            refine ⟨_, .lst _, ss2, fun q => if decide (ix (rw' z) (al q) < ix (rw' z) (al z)) = true then some (pairD (z, q)) else none, rfl, by have := mk.few; omega, fun _ _ => .lst _, fun q hq acc c => ?_, ?_⟩
            · have hqp := (hysp q).mp hq
              repeat fail
              refine ⟨_, z, _, .dct _, rfl, lookD_in hzp, ?_⟩
              refine ⟨_, .lst _, ?_⟩
              repeat fail
              refine ⟨_, q, _, .dct _, rfl, lookD_in hqp, ?_⟩
              repeat fail
              refine a_index (ns := rw' z) (.lst _) (ix_at (hmemr z hzp q hqp)) (fun _ hm => ix_first hm) ?_
              repeat fail
              have ed : decide (((ix (rw' z) (al q) : Nat) : Int) < ((ix (rw' z) (al z) : Nat) : Int)) = decide (ix (rw' z) (al q) < ix (rw' z) (al z)) := by simp
              refine a_lt ⟨_, rfl, fun hb => ?_, fun hb => ?_⟩
              · rw [ed] at hb
                refine wE_tup ?_
                repeat fail
                exact ⟨[.str z, .str q], rfl, (by show 2 ≤ 1000; decide), rfl, _, rfl, if_pos hb⟩
              · rw [ed] at hb
                exact ⟨rfl, if_neg (by rw [hb]; decide)⟩
            · rw [filterMap_pred (fun q => decide (ix (rw' z) (al q) < ix (rw' z) (al z))) (fun q => pairD (z, q)), show (ss2.filter (fun q => decide (ix (rw' z) (al q) < ix (rw' z) (al z)))).map (fun q => pairD (z, q)) = (wantsL ss2 al rw' z).map pairD by unfold wantsL; rw [List.map_map]; rfl]
              repeat fail
              have hwl : ∀ (l : List Str), (l.flatMap (wantsL ss2 al rw')).length ≤ l.length * 20 := fun l => flat_len fun x _ => by
                unfold wantsL
                rw [List.length_map]
                exact Nat.le_trans (List.length_filter_le _ _) mk.few
              have h1 := hwl (ss2.take j)
              have h2 := hwl [z]
              have h3 : (ss2.take j).length ≤ 20 := by rw [List.length_take]; have := mk.few; omega
              have h4 : (ss2.take j).length * 20 ≤ 20 * 20 := Nat.mul_le_mul_right 20 h3
              simp only [List.flatMap_cons, List.flatMap_nil, List.append_nil, List.length_cons, List.length_nil] at h2
              refine a_extend (l := 4) (a := wa) rfl (by rw [List.length_map, List.length_map]; omega) ?_
              refine ⟨?_, ⟨rfl, rfl, rfl, rfl, rfl, rfl, rfl, rfl, rfl, rfl, trivial⟩⟩
              rw [take_next hzi, List.flatMap_append, List.map_append]
              simp only [List.flatMap_cons, List.flatMap_nil, List.append_nil]
              rfl
          · rintro Γ' O' ⟨hO, le⟩
            have htk : ss.take (sD ss).length = ss := List.take_of_length_le (by rw [List.length_map]; exact Nat.le_refl _)
            rw [htk] at hO
            subst hO
            refine wS_le le (wS_pubL (i := 25) (l := 4) (a := wa) rfl rfl ?_)
            refine wS_ifF ?_
            repeat fail
            refine ⟨rfl, _, _, ps, ts, ss, rw', al, rfl, ⟨ps, rfl, rfl, hst, hal, List.Perm.refl _⟩, fun qs hqs hqp => ?_⟩
            have hqe := wants_eq mk hst.so hqs hqp
            subst hqe
            repeat fail
            have hwl : (ss.flatMap (wantsL ss al rw')).length ≤ ss.length * 20 := flat_len fun x _ => by
              unfold wantsL
              rw [List.length_map]
              exact Nat.le_trans (List.length_filter_le _ _) mk.few
            have h3 : ss.length ≤ 20 := mk.few
            have h4 : ss.length * 20 ≤ 20 * 20 := Nat.mul_le_mul_right 20 h3
            refine ⟨rfl, .inl ⟨_, rfl, by omega, _, rfl, rfl, ?_⟩⟩
            repeat fail
            exact ⟨n + ps.length, by omega, rfl, ⟨rfl, trivial⟩⟩
      · repeat fail
        refine ⟨rfl, _, _, ps, ts, ys, rw', al, rfl, ⟨ps, rfl, rfl, hst, hal, List.Perm.refl _⟩, fun ord hg => (good_not_bad hg hb).elim, fun left2 hb2 => ?_⟩
        repeat fail
        refine wS_ifF ?_
        repeat fail
        refine a_eqBl ⟨_, rfl, rfl, ?_⟩
        repeat fail
        refine wS_ifF ?_
        repeat fail
        refine ⟨_, rfl, rfl, ?_⟩
        repeat fail
        have hysp : ∀ p, p ∈ ys ↔ p ∈ ps := fun p => hst.ys.mem_iff
        have rsub : ∀ z ∈ r, z ∈ ps := fun z hz => (hysp z).mp (hr.sub z hz)
        have hrl : r.length ≤ 20 := by
          have := List.Nodup.length_le_of_subset hr.nd rsub
          omega
        have hmemr : ∀ p ∈ ps, ∀ q ∈ ps, al q ∈ rw' p := fun p hp q hq => mk.rmem p ((hysp p).mpr hp) q ((hysp q).mpr hq)
        have hBL := ringB_eq mk hst.ys r
        rw [ringB_true hr] at hBL
        have hLr : ringL al rw' r = true := (Bool.and_eq_true_iff.mp hBL.symm).2
        refine wS_ifF (wT_orF ?_)
        repeat fail
        refine ⟨rfl, ps, ps, r, rw', al, rfl, List.Perm.refl _, by omega, rsub, hmemr, _, rfl, by rw [hLr]; rfl, ?_⟩
        repeat fail
        refine ⟨rfl, s0, cl, _, r, rfl, rfl, by omega, by omega, fun dd hdd => ?_⟩
        repeat fail
        refine ⟨rfl, _, _, dd, ps, ts, ys, rw', al, rfl, ⟨ps, rfl, rfl, hst, hal, List.Perm.refl _⟩, .inr ⟨r, hdd.seq, by omega, _, rfl, by rw [ringB_true hr]; rfl, ?_⟩⟩
        repeat fail
        refine wE_lst ?_
        repeat fail
        refine a_cat (.lst _) (.lst _) (by rw [List.length_map]; omega) ?_
        rw [← List.map_append]
        repeat fail
        refine ⟨_, rfl, ?_⟩
        refine a_slL (.lst _) ?_
        rw [show ((1 : Int)) = ((1 : Nat) : Int) from rfl, cutD_to, ← List.map_take]
        repeat fail
        refine wE_revL ?_
        repeat fail
        refine ⟨_, .lst _, ?_⟩
        rw [← List.map_reverse]
        repeat fail
        refine wE_lst ?_
        repeat fail
        refine ⟨sD [("nobody9" : Str)], rfl, (by show 1 ≤ 1000; decide), a_cat (.lst _) (.lst _) (by rw [List.length_map]; show _ + 1 < _; omega) ?_⟩
        rw [← List.map_append]
        repeat fail
        refine wE_lcS (tgk_name (by decide)) (wI_seq ?_)
        repeat fail
        refine ⟨_, .lst _, r, fun z => some (.str (al z)), rfl, by omega, fun _ _ => .lst _, fun z hz acc c => ?_, ?_⟩
        · repeat fail
          refine ⟨fun _ => ?_, fun q => by cases q⟩
          repeat fail
          exact ⟨_, z, _, .dct _, rfl, lookD_in (rsub z hz), rfl, _, rfl, rfl⟩
        rw [filterMap_some, show (r.map fun z => D.str (al z)) = sD (r.map al) by show _ = (r.map al).map D.str; rw [List.map_map]; rfl]
        repeat fail
        refine ⟨[.lst (sD (r ++ r)), .lst (sD (r.take 1)), .lst (sD r.reverse), .lst (sD (r ++ [("nobody9" : Str)])), .non, .lst (sD (r.map al))], rfl, (by show 6 ≤ 1000; decide), ?_⟩
        generalize hodds : ([.lst (sD (r ++ r)), .lst (sD (r.take 1)), .lst (sD r.reverse), .lst (sD (r ++ [("nobody9" : Str)])), .non, .lst (sD (r.map al))] : List D) = odds
        have hodd : ∀ d ∈ odds, d = .non ∨ ∃ zs : List Str, d = .lst (sD zs) ∧ zs.length ≤ 100 := fun d hd => by
          rw [← hodds] at hd
          simp only [List.mem_cons, List.not_mem_nil, or_false] at hd
          rcases hd with rfl | rfl | rfl | rfl | rfl | rfl
          · exact .inr ⟨_, rfl, by rw [List.length_append]; omega⟩
          · exact .inr ⟨_, rfl, by rw [List.length_take]; omega⟩
          · exact .inr ⟨_, rfl, by rw [List.length_reverse]; omega⟩
          · exact .inr ⟨_, rfl, by rw [List.length_append]; show _ + 1 ≤ _; omega⟩
          · exact .inl rfl
          · exact .inr ⟨_, rfl, by rw [List.length_map]; omega⟩
        repeat fail
        refine wS_for (wI_seq ?_)
        repeat fail
        refine ⟨_, .lst _, fun j Γ' O' => O' = [(0, s0, .sm cl (n + ps.length + 1))] ∧ GLe (none :: some (.p 0 s0) :: none :: some (.d (.int (m : Int))) :: some (.d (.lst (sD ps))) :: some (.d (.lst (sD ts))) :: some (.d (.lst (sD bs))) :: some (.d (.dct (funD (lstS rw') ps))) :: none :: none :: none :: some (.d (stockD C ps ts ys rw')) :: some (.d (.dct (funD (strF al) ps))) :: none :: some (.d (.lst (sD r))) :: List.replicate 12 none) Γ', ⟨rfl, ⟨rfl, rfl, rfl, rfl, rfl, rfl, rfl, rfl, rfl, trivial⟩⟩, fun _ _ _ _ => .lst _, ?_, ?_⟩
        · rintro j d Γ' O' hd ⟨rfl, le⟩
          refine wG_le le ?_
          have hdm : d ∈ odds := List.mem_of_getElem? hd
          repeat fail
          rcases hodd d hdm with rfl | ⟨zs, rfl, hzl⟩
          · refine wE_andF ?_
            repeat fail
            refine ⟨_, _, false, rfl, rfl, by decide, rfl, ?_⟩
            repeat fail
            refine wS_ifF ?_
            repeat fail
            refine ⟨rfl, _, _, .non, ps, ts, ys, rw', al, rfl, ⟨ps, rfl, rfl, hst, hal, List.Perm.refl _⟩, .inl ⟨rfl, ?_⟩⟩
            repeat fail
            refine ⟨rfl, .inr ⟨.bl false, rfl, .inr ⟨_, rfl⟩, _, rfl, rfl, ?_⟩⟩
            repeat fail
            exact ⟨rfl, ⟨rfl, rfl, rfl, rfl, rfl, rfl, rfl, rfl, rfl, trivial⟩⟩
          · refine wE.imp (P := fun s O1 => s = .d (.bl ((zs.all fun z => decide (z ∈ ps)) && ringL al rw' zs)) ∧ O1 = [(0, s0, .sm cl (n + ps.length + 1))]) ?_ ?_
            · refine wE_andT ?_
              repeat fail
              refine ⟨_, _, true, rfl, rfl, by decide, rfl, ?_⟩
              refine wE_andV ?_
              refine wE_allS (tgk_name (by decide)) (wI_seq ?_)
              repeat fail
              refine ⟨_, .lst _, zs, fun z => decide (z ∈ ps), rfl, by omega, fun _ _ => .lst _, fun z hz acc c => ?_, _, rfl, fun hb => ?_, fun hb => ?_⟩
              · repeat fail
                refine ⟨_, z, .dct _, rfl, rfl, ?_⟩
                rw [lookD_some]
              · repeat fail
                refine ⟨rfl, ps, ps, zs, rw', al, rfl, List.Perm.refl _, by omega, fun z hz => of_decide_eq_true (List.all_eq_true.mp hb z hz), hmemr, ?_, rfl⟩
                rw [hb, Bool.true_and]
              · exact ⟨by rw [hb, Bool.false_and], rfl⟩
            · rintro s O1 ⟨rfl, rfl⟩
              repeat fail
              refine wS_ifF ?_
              repeat fail
              refine ⟨rfl, _, _, .lst (sD zs), ps, ts, ys, rw', al, rfl, ⟨ps, rfl, rfl, hst, hal, List.Perm.refl _⟩, .inr ⟨zs, .lst _, by omega, ?_⟩⟩
              rw [ringB_eq mk hst.ys zs]
              repeat fail
              refine ⟨rfl, .inr ⟨.bl _, rfl, .inr ⟨_, rfl⟩, _, rfl, rfl, ?_⟩⟩
              repeat fail
              exact ⟨rfl, ⟨rfl, rfl, rfl, rfl, rfl, rfl, rfl, rfl, rfl, trivial⟩⟩
        · rintro Γ' O' ⟨rfl, le⟩
          refine wS_le le ?_
          repeat fail
          refine wE_cb ?_
          repeat fail
          refine a_dictD 2 (.dct _) fun la => ?_
          repeat fail
          refine wS_for (wI_zipB ?_)
          repeat fail
          refine ⟨_, rfl, ?_⟩
          repeat fail
          refine a_slL (.lst _) ?_
          repeat fail
          refine ⟨_, rfl, ?_⟩
          refine a_slL (.lst _) ?_
          rw [cutD_from, cutD_to, ← List.map_drop, ← List.map_take]
          refine a_cat (.lst _) (.lst _) (by rw [List.length_map, List.length_map, List.length_drop, List.length_take]; omega) ?_
          rw [← List.map_append]
          repeat fail
          refine ⟨_, _, _, _, rfl, .lst _, .lst _, ?_⟩
          rw [zipD_strs, show r.zip (r.drop 1 ++ r.take 1) = nbrs r from rfl]
          refine ⟨fun j Γ' O' => O' = [(2, la, .ok (funD (strF fun p => al (nxt ((nbrs r).take j) p)) ps)), (0, s0, .sm cl (n + ps.length + 1))] ∧ GLe (none :: some (.p 0 s0) :: none :: some (.d (.int (m : Int))) :: some (.d (.lst (sD ps))) :: some (.d (.lst (sD ts))) :: some (.d (.lst (sD bs))) :: some (.d (.dct (funD (lstS rw') ps))) :: none :: none :: none :: some (.d (stockD C ps ts ys rw')) :: some (.d (.dct (funD (strF al) ps))) :: none :: none :: none :: none :: none :: none :: none :: some (.p 2 la) :: List.replicate 6 none) Γ', ⟨rfl, ⟨rfl, rfl, rfl, rfl, rfl, rfl, rfl, rfl, rfl, trivial⟩⟩, fun _ _ _ _ => ⟨.lst _, .lst _⟩, ?_, ?_⟩
          · rintro j d Γ' O' hd ⟨rfl, le⟩
            unfold itemsD at hd
            rw [List.getElem?_map, List.getElem?_map] at hd
            cases he : (nbrs r)[j]? with
            | none => rw [he] at hd; cases hd
            | some e =>
              rw [he] at hd
              cases hd
              obtain ⟨h1, h2⟩ := nbrs_mem (List.mem_of_getElem? he)
              have hp1 := rsub _ h1
              have hp2 := rsub _ h2
              refine wG_le le ?_
              repeat fail
              refine ⟨_, e.2, _, .dct _, rfl, lookD_in hp2, ?_⟩
              repeat fail
              refine ⟨_, 2, la, _, e.1, rfl, rfl, rfl, rfl, by rw [funD_len]; omega, ?_, ⟨rfl, rfl, rfl, rfl, rfl, rfl, rfl, rfl, rfl, trivial⟩⟩
              have hfst : e.1 ∉ ((nbrs r).take j).map (·.1) := by
                rw [List.map_take, nbrs_fst]
                refine not_mem_take hr.nd ?_
                have : ((nbrs r).map (·.1))[j]? = some e.1 := by rw [List.getElem?_map, he]; rfl
                rw [nbrs_fst] at this
                exact this
              show [(2, la, OD.ok (putD (funD (strF fun p => al (nxt ((nbrs r).take j) p)) ps) e.1 (.str (al e.2)))), (0, s0, .sm cl (n + ps.length + 1))] = _
              rw [putD_upd hp1, take_next he]
              congr 4
              refine funD_congr fun p _ => ?_
              show (if p = e.1 then D.str (al e.2) else D.str (al (nxt ((nbrs r).take j) p))) = D.str (al (nxt ((nbrs r).take j ++ [e]) p))
              rw [nxt_app hfst]
              by_cases hpe : p = e.1
              · rw [if_pos hpe, if_pos hpe]
              · rw [if_neg hpe, if_neg hpe]
          · rintro Γ' O' ⟨hO, le⟩
            have hlen : (itemsD ((nbrs r).map fun e => (e.1, D.str e.2))).length = (nbrs r).length := by simp [itemsD]
            rw [hlen, List.take_length] at hO
            subst hO
            refine wS_le le ?_
            refine wS_frz (l := 2) (a := la) rfl rfl ?_
            repeat fail
            have hperm := nxt_perm hps.nd hr.nd rsub
            have hpl2 := pot_lt (rw' := rw') (al := al) hr.two hr.nd rsub (fun e he => by
              have := hr.wants e he
              exact ((ws_mem mk (hr.sub _ (nbrs_mem he).1)).mp this).2)
            refine ⟨fun p => al (nxt (nbrs r) p), n + ps.length + 1, ⟨?_⟩, by omega, by omega, rfl, ⟨rfl, rfl, rfl, rfl, rfl, rfl, rfl, rfl, trivial⟩⟩
            have := (hperm.map al).trans hal.perm
            rw [List.map_map] at this
            exact this
    · rintro Γ' O' ⟨al, n, hal, hpot, hn, rfl, le⟩
      rw [rngD_len] at hpot
      exfalso
      omega
end
end Y

/-! k61: the end. -/
namespace Y
open PySem PySem.Spec PyProof.Rows L2
theorem fn_or {P : Program} {w : World} {K : PySem.W.Frag} {mg : Str → Option Value} {base : Heap} {k n : Nat} {x : Str} {f : Addr} {fd : FuncData} {ps : List Str} {F1 F2 : FF} (h1 : Fn P w K mg base k x f fd ps (spA K n F1)) (h2 : Fn P w K mg base k x f fd ps (spA K n F2)) :
    Fn P w K mg base k x f fd ps (spA K n fun ss O P => F1 ss O P ∨ F2 ss O P) := by
  have split : ∀ vs H Q E, spA K n (fun ss O P => F1 ss O P ∨ F2 ss O P) vs H Q E → spA K n F1 vs H Q E ∨ spA K n F2 vs H Q E := fun vs H Q E h => by
    obtain ⟨ss, O, P, e1, e2, e3, e4, e5⟩ := h
    rcases e4 with e4 | e4
    · exact .inl ⟨ss, O, P, e1, e2, e3, e4, e5⟩
    · exact .inr ⟨ss, O, P, e1, e2, e3, e4, e5⟩
  refine ⟨h1.at', h1.kp, h1.bd, ⟨fun vs H Q E h => ?_, fun A outer s H args us vs Q E hr he hb hv h => ?_⟩⟩
  · rcases split vs H Q E h with h | h
    · exact h1.ok.len vs H Q E h
    · exact h2.ok.len vs H Q E h
  · rcases split vs H Q E h with h | h
    · exact h1.ok.run A outer s H args us vs Q E hr he hb hv h
    · exact h2.ok.run A outer s H args us vs Q E hr he hb hv h
theorem kit_self (K : PySem.W.Frag) (C : Addr) : PySem.W.kitOne K (.ref C) (.ref C) = some true := by
  unfold PySem.W.kitOne
  rw [if_pos (by simp)]
theorem Fn.up {P : Program} {w : World} {K : PySem.W.Frag} {mg : Str → Option Value} {base : Heap} {j k : Nat} {x : Str} {f : Addr} {fd : FuncData} {ps : List Str} {sp : Sp} (h : Fn P w K mg base j x f fd ps sp) (hj : j ≤ k) : Fn P w K mg base k x f fd ps sp := ⟨h.at', h.kp, h.bd, h.ok.mono hj⟩

theorem all_mk {l : PySem.W.OpenLaw} {w : World} {K : PySem.W.Frag} {h : Heap} {mg : Str → Option Value} {fa C : Addr} (X : K.In h) (G : h.Ns mainGlobals mg) (hfa : mg "law" = some (.ref fa))
    (aC : PySem.W.nsIn K mainGlobals "Stock" = some (some (.ref C)))
    {fI : Addr} {odI anI : Option Addr} {slI : Array (Option Value)} {ocI kVI dcI pmI cdI ctI : Value} (aI : PySem.W.findIn K (.ref C) "__init__" = some (some (.ref fI))) (lI : K.lookup fI = some ⟨ocI, odI, .func (PySem.W.fnOf "__init__" "Stock.__init__" (defArgs s_Stock___init__) (defBody s_Stock___init__) (defScope s_Stock___init__) .none kVI dcI pmI anI cdI ctI), slI⟩) (iI : PySem.W.isFn K (.ref fI) = true) (cI : PySem.W.codeIn K cdI "Stock.__init__" = true) (kI : PySem.W.keepIn K (.ref fI) = true)
    {f0 : Addr} {od0 an0 : Option Addr} {sl0 : Array (Option Value)} {oc0 kV0 dc0 pm0 cd0 ct0 : Value} (a0 : PySem.W.nsIn K mainGlobals "is_list" = some (some (.ref f0))) (l0 : K.lookup f0 = some ⟨oc0, od0, .func (PySem.W.fnOf "is_list" "is_list" (defArgs s_is_list) (defBody s_is_list) (defScope s_is_list) .none kV0 dc0 pm0 an0 cd0 ct0), sl0⟩) (c0 : PySem.W.codeIn K cd0 "is_list" = true) (k0 : PySem.W.keepIn K (.ref f0) = true)
    {f1 : Addr} {od1 an1 : Option Addr} {sl1 : Array (Option Value)} {oc1 kV1 dc1 pm1 cd1 ct1 : Value} (a1 : PySem.W.nsIn K mainGlobals "is_name" = some (some (.ref f1))) (l1 : K.lookup f1 = some ⟨oc1, od1, .func (PySem.W.fnOf "is_name" "is_name" (defArgs s_is_name) (defBody s_is_name) (defScope s_is_name) .none kV1 dc1 pm1 an1 cd1 ct1), sl1⟩) (c1 : PySem.W.codeIn K cd1 "is_name" = true) (k1 : PySem.W.keepIn K (.ref f1) = true)
    {f2 : Addr} {od2 an2 : Option Addr} {sl2 : Array (Option Value)} {oc2 kV2 dc2 pm2 cd2 ct2 : Value} (a2 : PySem.W.nsIn K mainGlobals "is_one_of" = some (some (.ref f2))) (l2 : K.lookup f2 = some ⟨oc2, od2, .func (PySem.W.fnOf "is_one_of" "is_one_of" (defArgs s_is_one_of) (defBody s_is_one_of) (defScope s_is_one_of) .none kV2 dc2 pm2 an2 cd2 ct2), sl2⟩) (c2 : PySem.W.codeIn K cd2 "is_one_of" = true) (k2 : PySem.W.keepIn K (.ref f2) = true)
    {f3 : Addr} {od3 an3 : Option Addr} {sl3 : Array (Option Value)} {oc3 kV3 dc3 pm3 cd3 ct3 : Value} (a3 : PySem.W.nsIn K mainGlobals "are_unlike" = some (some (.ref f3))) (l3 : K.lookup f3 = some ⟨oc3, od3, .func (PySem.W.fnOf "are_unlike" "are_unlike" (defArgs s_are_unlike) (defBody s_are_unlike) (defScope s_are_unlike) .none kV3 dc3 pm3 an3 cd3 ct3), sl3⟩) (c3 : PySem.W.codeIn K cd3 "are_unlike" = true) (k3 : PySem.W.keepIn K (.ref f3) = true)
    {f4 : Addr} {od4 an4 : Option Addr} {sl4 : Array (Option Value)} {oc4 kV4 dc4 pm4 cd4 ct4 : Value} (a4 : PySem.W.nsIn K mainGlobals "checked_people" = some (some (.ref f4))) (l4 : K.lookup f4 = some ⟨oc4, od4, .func (PySem.W.fnOf "checked_people" "checked_people" (defArgs s_checked_people) (defBody s_checked_people) (defScope s_checked_people) .none kV4 dc4 pm4 an4 cd4 ct4), sl4⟩) (c4 : PySem.W.codeIn K cd4 "checked_people" = true) (k4 : PySem.W.keepIn K (.ref f4) = true)
    {f5 : Addr} {od5 an5 : Option Addr} {sl5 : Array (Option Value)} {oc5 kV5 dc5 pm5 cd5 ct5 : Value} (a5 : PySem.W.nsIn K mainGlobals "checked_goods" = some (some (.ref f5))) (l5 : K.lookup f5 = some ⟨oc5, od5, .func (PySem.W.fnOf "checked_goods" "checked_goods" (defArgs s_checked_goods) (defBody s_checked_goods) (defScope s_checked_goods) .none kV5 dc5 pm5 an5 cd5 ct5), sl5⟩) (c5 : PySem.W.codeIn K cd5 "checked_goods" = true) (k5 : PySem.W.keepIn K (.ref f5) = true)
    {f6 : Addr} {od6 an6 : Option Addr} {sl6 : Array (Option Value)} {oc6 kV6 dc6 pm6 cd6 ct6 : Value} (a6 : PySem.W.nsIn K mainGlobals "are_rows" = some (some (.ref f6))) (l6 : K.lookup f6 = some ⟨oc6, od6, .func (PySem.W.fnOf "are_rows" "are_rows" (defArgs s_are_rows) (defBody s_are_rows) (defScope s_are_rows) .none kV6 dc6 pm6 an6 cd6 ct6), sl6⟩) (c6 : PySem.W.codeIn K cd6 "are_rows" = true) (k6 : PySem.W.keepIn K (.ref f6) = true)
    {f7 : Addr} {od7 an7 : Option Addr} {sl7 : Array (Option Value)} {oc7 kV7 dc7 pm7 cd7 ct7 : Value} (a7 : PySem.W.nsIn K mainGlobals "checked_stock" = some (some (.ref f7))) (l7 : K.lookup f7 = some ⟨oc7, od7, .func (PySem.W.fnOf "checked_stock" "checked_stock" (defArgs s_checked_stock) (defBody s_checked_stock) (defScope s_checked_stock) .none kV7 dc7 pm7 an7 cd7 ct7), sl7⟩) (c7 : PySem.W.codeIn K cd7 "checked_stock" = true) (k7 : PySem.W.keepIn K (.ref f7) = true)
    {f8 : Addr} {od8 an8 : Option Addr} {sl8 : Array (Option Value)} {oc8 kV8 dc8 pm8 cd8 ct8 : Value} (a8 : PySem.W.nsIn K mainGlobals "is_allotment" = some (some (.ref f8))) (l8 : K.lookup f8 = some ⟨oc8, od8, .func (PySem.W.fnOf "is_allotment" "is_allotment" (defArgs s_is_allotment) (defBody s_is_allotment) (defScope s_is_allotment) .none kV8 dc8 pm8 an8 cd8 ct8), sl8⟩) (c8 : PySem.W.codeIn K cd8 "is_allotment" = true) (k8 : PySem.W.keepIn K (.ref f8) = true)
    {f9 : Addr} {od9 an9 : Option Addr} {sl9 : Array (Option Value)} {oc9 kV9 dc9 pm9 cd9 ct9 : Value} (a9 : PySem.W.nsIn K mainGlobals "checked_allotment" = some (some (.ref f9))) (l9 : K.lookup f9 = some ⟨oc9, od9, .func (PySem.W.fnOf "checked_allotment" "checked_allotment" (defArgs s_checked_allotment) (defBody s_checked_allotment) (defScope s_checked_allotment) .none kV9 dc9 pm9 an9 cd9 ct9), sl9⟩) (c9 : PySem.W.codeIn K cd9 "checked_allotment" = true) (k9 : PySem.W.keepIn K (.ref f9) = true)
    {f10 : Addr} {od10 an10 : Option Addr} {sl10 : Array (Option Value)} {oc10 kV10 dc10 pm10 cd10 ct10 : Value} (a10 : PySem.W.nsIn K mainGlobals "taken_by" = some (some (.ref f10))) (l10 : K.lookup f10 = some ⟨oc10, od10, .func (PySem.W.fnOf "taken_by" "taken_by" (defArgs s_taken_by) (defBody s_taken_by) (defScope s_taken_by) .none kV10 dc10 pm10 an10 cd10 ct10), sl10⟩) (c10 : PySem.W.codeIn K cd10 "taken_by" = true) (k10 : PySem.W.keepIn K (.ref f10) = true)
    {f11 : Addr} {od11 an11 : Option Addr} {sl11 : Array (Option Value)} {oc11 kV11 dc11 pm11 cd11 ct11 : Value} (a11 : PySem.W.nsIn K mainGlobals "wanted_in" = some (some (.ref f11))) (l11 : K.lookup f11 = some ⟨oc11, od11, .func (PySem.W.fnOf "wanted_in" "wanted_in" (defArgs s_wanted_in) (defBody s_wanted_in) (defScope s_wanted_in) .none kV11 dc11 pm11 an11 cd11 ct11), sl11⟩) (c11 : PySem.W.codeIn K cd11 "wanted_in" = true) (k11 : PySem.W.keepIn K (.ref f11) = true)
    {f12 : Addr} {od12 an12 : Option Addr} {sl12 : Array (Option Value)} {oc12 kV12 dc12 pm12 cd12 ct12 : Value} (a12 : PySem.W.nsIn K mainGlobals "wanting" = some (some (.ref f12))) (l12 : K.lookup f12 = some ⟨oc12, od12, .func (PySem.W.fnOf "wanting" "wanting" (defArgs s_wanting) (defBody s_wanting) (defScope s_wanting) .none kV12 dc12 pm12 an12 cd12 ct12), sl12⟩) (c12 : PySem.W.codeIn K cd12 "wanting" = true) (k12 : PySem.W.keepIn K (.ref f12) = true)
    {f13 : Addr} {od13 an13 : Option Addr} {sl13 : Array (Option Value)} {oc13 kV13 dc13 pm13 cd13 ct13 : Value} (a13 : PySem.W.nsIn K mainGlobals "order_keeping" = some (some (.ref f13))) (l13 : K.lookup f13 = some ⟨oc13, od13, .func (PySem.W.fnOf "order_keeping" "order_keeping" (defArgs s_order_keeping) (defBody s_order_keeping) (defScope s_order_keeping) .none kV13 dc13 pm13 an13 cd13 ct13), sl13⟩) (c13 : PySem.W.codeIn K cd13 "order_keeping" = true) (k13 : PySem.W.keepIn K (.ref f13) = true)
    {f14 : Addr} {od14 an14 : Option Addr} {sl14 : Array (Option Value)} {oc14 kV14 dc14 pm14 cd14 ct14 : Value} (a14 : PySem.W.nsIn K mainGlobals "order_for" = some (some (.ref f14))) (l14 : K.lookup f14 = some ⟨oc14, od14, .func (PySem.W.fnOf "order_for" "order_for" (defArgs s_order_for) (defBody s_order_for) (defScope s_order_for) .none kV14 dc14 pm14 an14 cd14 ct14), sl14⟩) (c14 : PySem.W.codeIn K cd14 "order_for" = true) (k14 : PySem.W.keepIn K (.ref f14) = true)
    {f15 : Addr} {od15 an15 : Option Addr} {sl15 : Array (Option Value)} {oc15 kV15 dc15 pm15 cd15 ct15 : Value} (a15 : PySem.W.nsIn K mainGlobals "is_order_for" = some (some (.ref f15))) (l15 : K.lookup f15 = some ⟨oc15, od15, .func (PySem.W.fnOf "is_order_for" "is_order_for" (defArgs s_is_order_for) (defBody s_is_order_for) (defScope s_is_order_for) .none kV15 dc15 pm15 an15 cd15 ct15), sl15⟩) (c15 : PySem.W.codeIn K cd15 "is_order_for" = true) (k15 : PySem.W.keepIn K (.ref f15) = true)
    {f16 : Addr} {od16 an16 : Option Addr} {sl16 : Array (Option Value)} {oc16 kV16 dc16 pm16 cd16 ct16 : Value} (a16 : PySem.W.nsIn K mainGlobals "wanting_ring" = some (some (.ref f16))) (l16 : K.lookup f16 = some ⟨oc16, od16, .func (PySem.W.fnOf "wanting_ring" "wanting_ring" (defArgs s_wanting_ring) (defBody s_wanting_ring) (defScope s_wanting_ring) .none kV16 dc16 pm16 an16 cd16 ct16), sl16⟩) (c16 : PySem.W.codeIn K cd16 "wanting_ring" = true) (k16 : PySem.W.keepIn K (.ref f16) = true)
    {f17 : Addr} {od17 an17 : Option Addr} {sl17 : Array (Option Value)} {oc17 kV17 dc17 pm17 cd17 ct17 : Value} (a17 : PySem.W.nsIn K mainGlobals "is_wanting_ring" = some (some (.ref f17))) (l17 : K.lookup f17 = some ⟨oc17, od17, .func (PySem.W.fnOf "is_wanting_ring" "is_wanting_ring" (defArgs s_is_wanting_ring) (defBody s_is_wanting_ring) (defScope s_is_wanting_ring) .none kV17 dc17 pm17 an17 cd17 ct17), sl17⟩) (c17 : PySem.W.codeIn K cd17 "is_wanting_ring" = true) (k17 : PySem.W.keepIn K (.ref f17) = true)
    {f18 : Addr} {od18 an18 : Option Addr} {sl18 : Array (Option Value)} {oc18 kV18 dc18 pm18 cd18 ct18 : Value} (a18 : PySem.W.nsIn K mainGlobals "_law_a_name" = some (some (.ref f18))) (l18 : K.lookup f18 = some ⟨oc18, od18, .func (PySem.W.fnOf "_law_a_name" "_law_a_name" (defArgs s__law_a_name) (defBody s__law_a_name) (defScope s__law_a_name) .none kV18 dc18 pm18 an18 cd18 ct18), sl18⟩) (c18 : PySem.W.codeIn K cd18 "_law_a_name" = true) (k18 : PySem.W.keepIn K (.ref f18) = true)
    {f19 : Addr} {od19 an19 : Option Addr} {sl19 : Array (Option Value)} {oc19 kV19 dc19 pm19 cd19 ct19 : Value} (a19 : PySem.W.nsIn K mainGlobals "_law_a_names" = some (some (.ref f19))) (l19 : K.lookup f19 = some ⟨oc19, od19, .func (PySem.W.fnOf "_law_a_names" "_law_a_names" (defArgs s__law_a_names) (defBody s__law_a_names) (defScope s__law_a_names) .none kV19 dc19 pm19 an19 cd19 ct19), sl19⟩) (c19 : PySem.W.codeIn K cd19 "_law_a_names" = true) (k19 : PySem.W.keepIn K (.ref f19) = true)
    {f20 : Addr} {od20 an20 : Option Addr} {sl20 : Array (Option Value)} {oc20 kV20 dc20 pm20 cd20 ct20 : Value} (a20 : PySem.W.nsIn K mainGlobals "_law_q_stock" = some (some (.ref f20))) (l20 : K.lookup f20 = some ⟨oc20, od20, .func (PySem.W.fnOf "_law_q_stock" "_law_q_stock" (defArgs s__law_q_stock) (defBody s__law_q_stock) (defScope s__law_q_stock) .none kV20 dc20 pm20 an20 cd20 ct20), sl20⟩) (c20 : PySem.W.codeIn K cd20 "_law_q_stock" = true) (k20 : PySem.W.keepIn K (.ref f20) = true)
    {f21 : Addr} {od21 an21 : Option Addr} {sl21 : Array (Option Value)} {oc21 kV21 dc21 pm21 cd21 ct21 : Value} (a21 : PySem.W.nsIn K mainGlobals "_law_start" = some (some (.ref f21))) (l21 : K.lookup f21 = some ⟨oc21, od21, .func (PySem.W.fnOf "_law_start" "_law_start" (defArgs s__law_start) (defBody s__law_start) (defScope s__law_start) .none kV21 dc21 pm21 an21 cd21 ct21), sl21⟩) (c21 : PySem.W.codeIn K cd21 "_law_start" = true) (k21 : PySem.W.keepIn K (.ref f21) = true)
    {f22 : Addr} {od22 an22 : Option Addr} {sl22 : Array (Option Value)} {oc22 kV22 dc22 pm22 cd22 ct22 : Value} (a22 : PySem.W.nsIn K mainGlobals "_law_draw" = some (some (.ref f22))) (l22 : K.lookup f22 = some ⟨oc22, od22, .func (PySem.W.fnOf "_law_draw" "_law_draw" (defArgs s__law_draw) (defBody s__law_draw) (defScope s__law_draw) .none kV22 dc22 pm22 an22 cd22 ct22), sl22⟩) (c22 : PySem.W.codeIn K cd22 "_law_draw" = true) (k22 : PySem.W.keepIn K (.ref f22) = true)
    {f23 : Addr} {od23 an23 : Option Addr} {sl23 : Array (Option Value)} {oc23 kV23 dc23 pm23 cd23 ct23 : Value} (a23 : PySem.W.nsIn K mainGlobals "_law_pick" = some (some (.ref f23))) (l23 : K.lookup f23 = some ⟨oc23, od23, .func (PySem.W.fnOf "_law_pick" "_law_pick" (defArgs s__law_pick) (defBody s__law_pick) (defScope s__law_pick) .none kV23 dc23 pm23 an23 cd23 ct23), sl23⟩) (c23 : PySem.W.codeIn K cd23 "_law_pick" = true) (k23 : PySem.W.keepIn K (.ref f23) = true)
    {f24 : Addr} {od24 an24 : Option Addr} {sl24 : Array (Option Value)} {oc24 kV24 dc24 pm24 cd24 ct24 : Value} (a24 : PySem.W.nsIn K mainGlobals "_law_mixed" = some (some (.ref f24))) (l24 : K.lookup f24 = some ⟨oc24, od24, .func (PySem.W.fnOf "_law_mixed" "_law_mixed" (defArgs s__law_mixed) (defBody s__law_mixed) (defScope s__law_mixed) .none kV24 dc24 pm24 an24 cd24 ct24), sl24⟩) (c24 : PySem.W.codeIn K cd24 "_law_mixed" = true) (k24 : PySem.W.keepIn K (.ref f24) = true)
    {f25 : Addr} {od25 an25 : Option Addr} {sl25 : Array (Option Value)} {oc25 kV25 dc25 pm25 cd25 ct25 : Value} (a25 : PySem.W.nsIn K mainGlobals "_law_same" = some (some (.ref f25))) (l25 : K.lookup f25 = some ⟨oc25, od25, .func (PySem.W.fnOf "_law_same" "_law_same" (defArgs s__law_same) (defBody s__law_same) (defScope s__law_same) .none kV25 dc25 pm25 an25 cd25 ct25), sl25⟩) (c25 : PySem.W.codeIn K cd25 "_law_same" = true) (k25 : PySem.W.keepIn K (.ref f25) = true)
    {f26 : Addr} {od26 an26 : Option Addr} {sl26 : Array (Option Value)} {oc26 kV26 dc26 pm26 cd26 ct26 : Value} (a26 : PySem.W.nsIn K mainGlobals "_law_each_once" = some (some (.ref f26))) (l26 : K.lookup f26 = some ⟨oc26, od26, .func (PySem.W.fnOf "_law_each_once" "_law_each_once" (defArgs s__law_each_once) (defBody s__law_each_once) (defScope s__law_each_once) .none kV26 dc26 pm26 an26 cd26 ct26), sl26⟩) (c26 : PySem.W.codeIn K cd26 "_law_each_once" = true) (k26 : PySem.W.keepIn K (.ref f26) = true)
    {f27 : Addr} {od27 an27 : Option Addr} {sl27 : Array (Option Value)} {oc27 kV27 dc27 pm27 cd27 ct27 : Value} (a27 : PySem.W.nsIn K mainGlobals "_law_loose" = some (some (.ref f27))) (l27 : K.lookup f27 = some ⟨oc27, od27, .func (PySem.W.fnOf "_law_loose" "_law_loose" (defArgs s__law_loose) (defBody s__law_loose) (defScope s__law_loose) .none kV27 dc27 pm27 an27 cd27 ct27), sl27⟩) (c27 : PySem.W.codeIn K cd27 "_law_loose" = true) (k27 : PySem.W.keepIn K (.ref f27) = true)
    {f28 : Addr} {od28 an28 : Option Addr} {sl28 : Array (Option Value)} {oc28 kV28 dc28 pm28 cd28 ct28 : Value} (a28 : PySem.W.nsIn K mainGlobals "_law_turned" = some (some (.ref f28))) (l28 : K.lookup f28 = some ⟨oc28, od28, .func (PySem.W.fnOf "_law_turned" "_law_turned" (defArgs s__law_turned) (defBody s__law_turned) (defScope s__law_turned) .none kV28 dc28 pm28 an28 cd28 ct28), sl28⟩) (c28 : PySem.W.codeIn K cd28 "_law_turned" = true) (k28 : PySem.W.keepIn K (.ref f28) = true)
    {f29 : Addr} {od29 an29 : Option Addr} {sl29 : Array (Option Value)} {oc29 kV29 dc29 pm29 cd29 ct29 : Value} (a29 : PySem.W.nsIn K mainGlobals "_law_is_ring" = some (some (.ref f29))) (l29 : K.lookup f29 = some ⟨oc29, od29, .func (PySem.W.fnOf "_law_is_ring" "_law_is_ring" (defArgs s__law_is_ring) (defBody s__law_is_ring) (defScope s__law_is_ring) .none kV29 dc29 pm29 an29 cd29 ct29), sl29⟩) (c29 : PySem.W.codeIn K cd29 "_law_is_ring" = true) (k29 : PySem.W.keepIn K (.ref f29) = true)
    {f30 : Addr} {od30 an30 : Option Addr} {sl30 : Array (Option Value)} {oc30 kV30 dc30 pm30 cd30 ct30 : Value} (a30 : PySem.W.nsIn K mainGlobals "law" = some (some (.ref f30))) (l30 : K.lookup f30 = some ⟨oc30, od30, .func (PySem.W.fnOf "law" "law" (defArgs s_law) (defBody s_law) (defScope s_law) .none kV30 dc30 pm30 an30 cd30 ct30), sl30⟩) (c30 : PySem.W.codeIn K cd30 "law" = true) (k30 : PySem.W.keepIn K (.ref f30) = true)
    (pg : PySem.W.plainGet K C Str.empty = true) (hd : PySem.W.hasDictIn K C = true) (po : PySem.W.plainOver K C = true) (sa : PySem.W.findIn K (.ref C) "__setattr__" = some (some (.builtin "object.__setattr__"))) (mk : PySem.W.makesIn K C = true) (kC : PySem.W.keepIn K (.ref C) = true)
    (hha : PySem.W.findIn K (.ref C) "__class__" = some (some (.builtin "object.__class__"))) (hhn : PySem.W.specialIn K (.builtin "object.__class__") "__get__" = some (some (.builtin "getset_descriptor.__get__"))) (htk : PySem.W.takesIn K (.builtin "object.__class__") = some true) (hmr : PySem.W.mroIn K C (.type "object") = some true)
    (nP : PySem.W.findIn K (.ref C) "own_people" = some none) (nT : PySem.W.findIn K (.ref C) "own_things" = some none) (nR : PySem.W.findIn K (.ref C) "own_rows" = some none)
    {z1 z2 : Str} {t1 t2 : Tok} {Wd : Addr} {oW : Obj} {its : Array Value} {nW : Nat} (g1 : PySem.W.nsIn K mainGlobals "SMALL" = some (some (.str z1 t1))) (e1 : z1 = zSMALL) (g2 : PySem.W.nsIn K mainGlobals "FIGURES" = some (some (.str z2 t2))) (e2 : z2 = zFIGURES) (g3 : PySem.W.nsIn K mainGlobals "WORDS" = some (some (.ref Wd))) (lW : K.lookup Wd = some oW) (w1 : oW.cls = .type "tuple") (w2 : oW.data = .seq its nW) (w3 : its.size ≤ sizeLine) (w4 : Vals (zWORDS.map V.str) its.toList)
    (b_len : PySem.W.nsIn K mainGlobals "len" = some none)    (b_list : PySem.W.nsIn K mainGlobals "list" = some none)    (b_tuple : PySem.W.nsIn K mainGlobals "tuple" = some none)    (b_dict : PySem.W.nsIn K mainGlobals "dict" = some none)    (b_isinstance : PySem.W.nsIn K mainGlobals "isinstance" = some none)    (b_all : PySem.W.nsIn K mainGlobals "all" = some none)    (b_enumerate : PySem.W.nsIn K mainGlobals "enumerate" = some none)    (b_zip : PySem.W.nsIn K mainGlobals "zip" = some none)    (b_sorted : PySem.W.nsIn K mainGlobals "sorted" = some none)    (b_range : PySem.W.nsIn K mainGlobals "range" = some none)    (b_str : PySem.W.nsIn K mainGlobals "str" = some none)    (b_int : PySem.W.nsIn K mainGlobals "int" = some none)    (b_max : PySem.W.nsIn K mainGlobals "max" = some none)    (b_bool : PySem.W.nsIn K mainGlobals "bool" = some none) :
    ∃ fd : FuncData, (∀ (s : Shared) (v : Value), BindsTo s fd ⟨[v], []⟩ [("script", v)]) ∧ ∀ base : Heap, K.In base → base.Ns mainGlobals mg → FnOk l.prog w K mg base CX0 7 fa fd ["script"] (spLaw K) := by
  have ee := hfa.symm.trans (PySem.W.mg_of X G a30)
  cases ee
  have B : BT mg := ⟨PySem.W.mg_none_of X G b_len, PySem.W.mg_none_of X G b_list, PySem.W.mg_none_of X G b_tuple, PySem.W.mg_none_of X G b_dict, PySem.W.mg_none_of X G b_isinstance, PySem.W.mg_none_of X G b_all, PySem.W.mg_none_of X G b_enumerate, PySem.W.mg_none_of X G b_zip, PySem.W.mg_none_of X G b_sorted, PySem.W.mg_none_of X G b_range, PySem.W.mg_none_of X G b_str, PySem.W.mg_none_of X G b_int, PySem.W.mg_none_of X G b_max, PySem.W.mg_none_of X G b_bool⟩
  subst e1 e2
  have GG' : GT K mg C fI Wd t1 t2 := ⟨PySem.W.mg_of X G g1, PySem.W.mg_of X G g2, PySem.W.mg_of X G g3, fun Gh => .tup (.inr ⟨oW, its, nW, lW, w1, w2, w3, w4⟩) (by simp) (Dens.of_strs zWORDS).at', PySem.W.mg_of X G aC, ⟨⟨pg, hd, po, sa⟩, hha, hhn, htk, hmr, kit_self K C⟩, ⟨mk, aI, iI, kC⟩, nP, nT, nR⟩
  have DI := fun_mk (st := s_Stock___init__) lI cI kI
  have bI := DI.binds (ps := ["self", "people", "things", "wishes"]) fun _ _ _ _ _ _ us hl => match us, hl with | [_, _, _, _], _ => rfl
  have D0 : Df K mg "is_list" "is_list" s_is_list f0 _ ["thing"] := ⟨PySem.W.mg_of X G a0, fun_mk (st := s_is_list) l0 c0 k0, (fun_mk (st := s_is_list) l0 c0 k0).binds fun _ _ _ _ _ _ us hl => match us, hl with | [_], _ => rfl⟩
  have D1 : Df K mg "is_name" "is_name" s_is_name f1 _ ["thing"] := ⟨PySem.W.mg_of X G a1, fun_mk (st := s_is_name) l1 c1 k1, (fun_mk (st := s_is_name) l1 c1 k1).binds fun _ _ _ _ _ _ us hl => match us, hl with | [_], _ => rfl⟩
  have D2 : Df K mg "is_one_of" "is_one_of" s_is_one_of f2 _ ["known", "thing"] := ⟨PySem.W.mg_of X G a2, fun_mk (st := s_is_one_of) l2 c2 k2, (fun_mk (st := s_is_one_of) l2 c2 k2).binds fun _ _ _ _ _ _ us hl => match us, hl with | [_, _], _ => rfl⟩
  have D3 : Df K mg "are_unlike" "are_unlike" s_are_unlike f3 _ ["known", "thing"] := ⟨PySem.W.mg_of X G a3, fun_mk (st := s_are_unlike) l3 c3 k3, (fun_mk (st := s_are_unlike) l3 c3 k3).binds fun _ _ _ _ _ _ us hl => match us, hl with | [_, _], _ => rfl⟩
  have D4 : Df K mg "checked_people" "checked_people" s_checked_people f4 _ ["people"] := ⟨PySem.W.mg_of X G a4, fun_mk (st := s_checked_people) l4 c4 k4, (fun_mk (st := s_checked_people) l4 c4 k4).binds fun _ _ _ _ _ _ us hl => match us, hl with | [_], _ => rfl⟩
  have D5 : Df K mg "checked_goods" "checked_goods" s_checked_goods f5 _ ["things", "many"] := ⟨PySem.W.mg_of X G a5, fun_mk (st := s_checked_goods) l5 c5 k5, (fun_mk (st := s_checked_goods) l5 c5 k5).binds fun _ _ _ _ _ _ us hl => match us, hl with | [_, _], _ => rfl⟩
  have D6 : Df K mg "are_rows" "are_rows" s_are_rows f6 _ ["people", "known", "thing"] := ⟨PySem.W.mg_of X G a6, fun_mk (st := s_are_rows) l6 c6 k6, (fun_mk (st := s_are_rows) l6 c6 k6).binds fun _ _ _ _ _ _ us hl => match us, hl with | [_, _, _], _ => rfl⟩
  have D7 : Df K mg "checked_stock" "checked_stock" s_checked_stock f7 _ ["stock"] := ⟨PySem.W.mg_of X G a7, fun_mk (st := s_checked_stock) l7 c7 k7, (fun_mk (st := s_checked_stock) l7 c7 k7).binds fun _ _ _ _ _ _ us hl => match us, hl with | [_], _ => rfl⟩
  have D8 : Df K mg "is_allotment" "is_allotment" s_is_allotment f8 _ ["stock", "thing"] := ⟨PySem.W.mg_of X G a8, fun_mk (st := s_is_allotment) l8 c8 k8, (fun_mk (st := s_is_allotment) l8 c8 k8).binds fun _ _ _ _ _ _ us hl => match us, hl with | [_, _], _ => rfl⟩
  have D9 : Df K mg "checked_allotment" "checked_allotment" s_checked_allotment f9 _ ["stock", "allotment"] := ⟨PySem.W.mg_of X G a9, fun_mk (st := s_checked_allotment) l9 c9 k9, (fun_mk (st := s_checked_allotment) l9 c9 k9).binds fun _ _ _ _ _ _ us hl => match us, hl with | [_, _], _ => rfl⟩
  have D10 : Df K mg "taken_by" "taken_by" s_taken_by f10 _ ["rows", "order"] := ⟨PySem.W.mg_of X G a10, fun_mk (st := s_taken_by) l10 c10 k10, (fun_mk (st := s_taken_by) l10 c10 k10).binds fun _ _ _ _ _ _ us hl => match us, hl with | [_, _], _ => rfl⟩
  have D11 : Df K mg "wanted_in" "wanted_in" s_wanted_in f11 _ ["rows", "allotment"] := ⟨PySem.W.mg_of X G a11, fun_mk (st := s_wanted_in) l11 c11 k11, (fun_mk (st := s_wanted_in) l11 c11 k11).binds fun _ _ _ _ _ _ us hl => match us, hl with | [_, _], _ => rfl⟩
  have D12 : Df K mg "wanting" "wanting" s_wanting f12 _ ["stock", "allotment"] := ⟨PySem.W.mg_of X G a12, fun_mk (st := s_wanting) l12 c12 k12, (fun_mk (st := s_wanting) l12 c12 k12).binds fun _ _ _ _ _ _ us hl => match us, hl with | [_, _], _ => rfl⟩
  have D13 : Df K mg "order_keeping" "order_keeping" s_order_keeping f13 _ ["wanted"] := ⟨PySem.W.mg_of X G a13, fun_mk (st := s_order_keeping) l13 c13 k13, (fun_mk (st := s_order_keeping) l13 c13 k13).binds fun _ _ _ _ _ _ us hl => match us, hl with | [_], _ => rfl⟩
  have D14 : Df K mg "order_for" "order_for" s_order_for f14 _ ["stock", "allotment"] := ⟨PySem.W.mg_of X G a14, fun_mk (st := s_order_for) l14 c14 k14, (fun_mk (st := s_order_for) l14 c14 k14).binds fun _ _ _ _ _ _ us hl => match us, hl with | [_, _], _ => rfl⟩
  have D15 : Df K mg "is_order_for" "is_order_for" s_is_order_for f15 _ ["stock", "allotment", "thing"] := ⟨PySem.W.mg_of X G a15, fun_mk (st := s_is_order_for) l15 c15 k15, (fun_mk (st := s_is_order_for) l15 c15 k15).binds fun _ _ _ _ _ _ us hl => match us, hl with | [_, _, _], _ => rfl⟩
  have D16 : Df K mg "wanting_ring" "wanting_ring" s_wanting_ring f16 _ ["stock", "allotment"] := ⟨PySem.W.mg_of X G a16, fun_mk (st := s_wanting_ring) l16 c16 k16, (fun_mk (st := s_wanting_ring) l16 c16 k16).binds fun _ _ _ _ _ _ us hl => match us, hl with | [_, _], _ => rfl⟩
  have D17 : Df K mg "is_wanting_ring" "is_wanting_ring" s_is_wanting_ring f17 _ ["stock", "allotment", "thing"] := ⟨PySem.W.mg_of X G a17, fun_mk (st := s_is_wanting_ring) l17 c17 k17, (fun_mk (st := s_is_wanting_ring) l17 c17 k17).binds fun _ _ _ _ _ _ us hl => match us, hl with | [_, _, _], _ => rfl⟩
  have D18 : Df K mg "_law_a_name" "_law_a_name" s__law_a_name f18 _ ["stream", "taken"] := ⟨PySem.W.mg_of X G a18, fun_mk (st := s__law_a_name) l18 c18 k18, (fun_mk (st := s__law_a_name) l18 c18 k18).binds fun _ _ _ _ _ _ us hl => match us, hl with | [_, _], _ => rfl⟩
  have D19 : Df K mg "_law_a_names" "_law_a_names" s__law_a_names f19 _ ["stream", "many"] := ⟨PySem.W.mg_of X G a19, fun_mk (st := s__law_a_names) l19 c19 k19, (fun_mk (st := s__law_a_names) l19 c19 k19).binds fun _ _ _ _ _ _ us hl => match us, hl with | [_, _], _ => rfl⟩
  have D20 : Df K mg "_law_q_stock" "_law_q_stock" s__law_q_stock f20 _ ["stream", "people", "things", "rows"] := ⟨PySem.W.mg_of X G a20, fun_mk (st := s__law_q_stock) l20 c20 k20, (fun_mk (st := s__law_q_stock) l20 c20 k20).binds fun _ _ _ _ _ _ us hl => match us, hl with | [_, _, _, _], _ => rfl⟩
  have D21 : Df K mg "_law_start" "_law_start" s__law_start f21 _ ["script"] := ⟨PySem.W.mg_of X G a21, fun_mk (st := s__law_start) l21 c21 k21, (fun_mk (st := s__law_start) l21 c21 k21).binds fun _ _ _ _ _ _ us hl => match us, hl with | [_], _ => rfl⟩
  have D22 : Df K mg "_law_draw" "_law_draw" s__law_draw f22 _ ["stream", "many"] := ⟨PySem.W.mg_of X G a22, fun_mk (st := s__law_draw) l22 c22 k22, (fun_mk (st := s__law_draw) l22 c22 k22).binds fun _ _ _ _ _ _ us hl => match us, hl with | [_, _], _ => rfl⟩
  have D23 : Df K mg "_law_pick" "_law_pick" s__law_pick f23 _ ["stream", "some"] := ⟨PySem.W.mg_of X G a23, fun_mk (st := s__law_pick) l23 c23 k23, (fun_mk (st := s__law_pick) l23 c23 k23).binds fun _ _ _ _ _ _ us hl => match us, hl with | [_, _], _ => rfl⟩
  have D24 : Df K mg "_law_mixed" "_law_mixed" s__law_mixed f24 _ ["stream", "some"] := ⟨PySem.W.mg_of X G a24, fun_mk (st := s__law_mixed) l24 c24 k24, (fun_mk (st := s__law_mixed) l24 c24 k24).binds fun _ _ _ _ _ _ us hl => match us, hl with | [_, _], _ => rfl⟩
  have D25 : Df K mg "_law_same" "_law_same" s__law_same f25 _ ["found", "due"] := ⟨PySem.W.mg_of X G a25, fun_mk (st := s__law_same) l25 c25 k25, (fun_mk (st := s__law_same) l25 c25 k25).binds fun _ _ _ _ _ _ us hl => match us, hl with | [_, _], _ => rfl⟩
  have D26 : Df K mg "_law_each_once" "_law_each_once" s__law_each_once f26 _ ["things"] := ⟨PySem.W.mg_of X G a26, fun_mk (st := s__law_each_once) l26 c26 k26, (fun_mk (st := s__law_each_once) l26 c26 k26).binds fun _ _ _ _ _ _ us hl => match us, hl with | [_], _ => rfl⟩
  have D27 : Df K mg "_law_loose" "_law_loose" s__law_loose f27 _ ["stream", "thing"] := ⟨PySem.W.mg_of X G a27, fun_mk (st := s__law_loose) l27 c27 k27, (fun_mk (st := s__law_loose) l27 c27 k27).binds fun _ _ _ _ _ _ us hl => match us, hl with | [_, _], _ => rfl⟩
  have D28 : Df K mg "_law_turned" "_law_turned" s__law_turned f28 _ ["stream", "given"] := ⟨PySem.W.mg_of X G a28, fun_mk (st := s__law_turned) l28 c28 k28, (fun_mk (st := s__law_turned) l28 c28 k28).binds fun _ _ _ _ _ _ us hl => match us, hl with | [_, _], _ => rfl⟩
  have D29 : Df K mg "_law_is_ring" "_law_is_ring" s__law_is_ring f29 _ ["rows", "given", "ring"] := ⟨PySem.W.mg_of X G a29, fun_mk (st := s__law_is_ring) l29 c29 k29, (fun_mk (st := s__law_is_ring) l29 c29 k29).binds fun _ _ _ _ _ _ us hl => match us, hl with | [_, _, _], _ => rfl⟩
  have D30 : Df K mg "law" "law" s_law fa _ ["script"] := ⟨PySem.W.mg_of X G a30, fun_mk (st := s_law) l30 c30 k30, (fun_mk (st := s_law) l30 c30 k30).binds fun _ _ _ _ _ _ us hl => match us, hl with | [_], _ => rfl⟩
  refine ⟨PySem.W.fnOf "law" "law" (defArgs s_law) (defBody s_law) (defScope s_law) .none kV30 dc30 pm30 an30 cd30 ct30, fun s v => ?bt, fun base _ _ => ?ok⟩
  case ok =>
    have F_is_list : Fn l.prog w K mg base 1 "is_list" f0 _ ["thing"] (spA K 1 Fis_list) := ok_is_list D0 B
    have F_is_name : Fn l.prog w K mg base 1 "is_name" f1 _ ["thing"] (spA K 1 Fis_name) := ok_is_name D1 B GG'
    have F_is_one_of : Fn l.prog w K mg base 1 "is_one_of" f2 _ ["known", "thing"] (spA K 2 Fis_one_of) := ok_is_one_of D2 B
    have F_are_unlike : Fn l.prog w K mg base 2 "are_unlike" f3 _ ["known", "thing"] (spA K 2 Fare_unlike) := ok_are_unlike D3 B F_is_list F_is_one_of
    have F_checked_people : Fn l.prog w K mg base 2 "checked_people" f4 _ ["people"] (spA K 1 Fchecked_people) := ok_checked_people D4 B F_is_list F_is_name
    have F_checked_goods : Fn l.prog w K mg base 2 "checked_goods" f5 _ ["things", "many"] (spA K 2 Fchecked_goods) := ok_checked_goods D5 B F_is_list F_is_name
    have F_are_rows : Fn l.prog w K mg base 3 "are_rows" f6 _ ["people", "known", "thing"] (spA K 3 Fare_rows) := ok_are_rows D6 B F_are_unlike
    have FS : FnOk l.prog w K mg base CX0 4 fI _ ["self", "people", "things", "wishes"] (spA K 4 (FStock C)) := ok_Stock_init DI B GG' F_checked_people F_checked_goods F_are_rows
    have F_checked_stock : Fn l.prog w K mg base 1 "checked_stock" f7 _ ["stock"] (spA K 1 (Fchecked_stock C)) := ok_checked_stock D7 B GG'
    have F_is_allotment : Fn l.prog w K mg base 1 "is_allotment" f8 _ ["stock", "thing"] (spA K 2 (Fis_allotment C)) := ok_is_allotment D8 B GG'
    have F_checked_allotment : Fn l.prog w K mg base 2 "checked_allotment" f9 _ ["stock", "allotment"] (spA K 2 (Fchecked_allotment C)) := ok_checked_allotment D9 B GG' F_is_allotment
    have F_taken_by : Fn l.prog w K mg base 1 "taken_by" f10 _ ["rows", "order"] (spA K 2 Ftaken_by) := ok_taken_by D10 B
    have F_wanted_in : Fn l.prog w K mg base 1 "wanted_in" f11 _ ["rows", "allotment"] (spA K 2 Fwanted_in) := ok_wanted_in D11 B
    have F_wanting : Fn l.prog w K mg base 3 "wanting" f12 _ ["stock", "allotment"] (spA K 2 (Fwanting C)) := ok_wanting D12 B GG' F_checked_stock F_checked_allotment F_wanted_in
    have F_order_keeping : Fn l.prog w K mg base 1 "order_keeping" f13 _ ["wanted"] (spA K 1 Forder_keeping) := ok_order_keeping D13 B
    have F_order_for : Fn l.prog w K mg base 3 "order_for" f14 _ ["stock", "allotment"] (spA K 2 (Forder_for C)) := ok_order_for D14 GG' F_checked_stock F_checked_allotment F_wanted_in F_order_keeping
    have F_is_order_for : Fn l.prog w K mg base 3 "is_order_for" f15 _ ["stock", "allotment", "thing"] (spA K 3 (Fis_order_for C)) := ok_is_order_for D15 B GG' F_checked_stock F_checked_allotment F_is_list F_are_unlike F_taken_by
    have F_wanting_ring : Fn l.prog w K mg base 3 "wanting_ring" f16 _ ["stock", "allotment"] (spA K 2 (Fwanting_ring C)) := ok_wanting_ring D16 B GG' F_checked_stock F_checked_allotment F_wanted_in F_order_keeping
    have F_is_wanting_ring : Fn l.prog w K mg base 3 "is_wanting_ring" f17 _ ["stock", "allotment", "thing"] (spA K 3 (Fis_wanting_ring C)) := ok_is_wanting_ring D17 B GG' F_checked_stock F_checked_allotment F_wanted_in F_is_list F_are_unlike
    have F_draw : Fn l.prog w K mg base 1 "_law_draw" f22 _ ["stream", "many"] (spA K 2 Fdraw) := ok_law_draw D22 B
    have F_pick : Fn l.prog w K mg base 2 "_law_pick" f23 _ ["stream", "some"] (spA K 2 Fpick) := ok_law_pick D23 B F_draw
    have F_mixed : Fn l.prog w K mg base 2 "_law_mixed" f24 _ ["stream", "some"] (spA K 2 Fmixed) := ok_law_mixed D24 B F_draw
    have F_loose0 : Fn l.prog w K mg base 1 "_law_loose" f27 _ ["stream", "thing"] (spA K 2 Floose0) := ok_law_loose0 D27 B
    have F_loose : Fn l.prog w K mg base 2 "_law_loose" f27 _ ["stream", "thing"] (spA K 2 Floose) := ok_law_loose D27 B F_loose0 F_draw
    have F_turned : Fn l.prog w K mg base 3 "_law_turned" f28 _ ["stream", "given"] (spA K 2 Fturned) := ok_law_turned D28 B F_mixed
    have F_q : Fn l.prog w K mg base 6 "_law_q_stock" f20 _ ["stream", "people", "things", "rows"] (spA K 4 (Fq_stock C)) := ok_law_q_stock D20 B GG' F_mixed F_loose FS bI
    have F_a_name : Fn l.prog w K mg base 3 "_law_a_name" f18 _ ["stream", "taken"] (spA K 2 Fa_name) := ok_law_a_name D18 B F_pick
    have F_a_names : Fn l.prog w K mg base 4 "_law_a_names" f19 _ ["stream", "many"] (spA K 2 Fa_names) := ok_law_a_names D19 B F_a_name
    have F_once : Fn l.prog w K mg base 1 "_law_each_once" f26 _ ["things"] (spA K 1 Feach_once) := ok_law_each_once D26 B
    have F_isring : Fn l.prog w K mg base 2 "_law_is_ring" f29 _ ["rows", "given", "ring"] (spA K 3 Flaw_is_ring) := ok_law_is_ring D29 B F_once
    have F_same0 : Fn l.prog w K mg base 1 "_law_same" f25 _ ["found", "due"] (spA K 2 Fsame0) := ok_law_same0 D25 B
    have F_same1 : Fn l.prog w K mg base 2 "_law_same" f25 _ ["found", "due"] (spA K 2 Fsame1) := ok_law_same1 D25 B F_same0
    have F_same2 : Fn l.prog w K mg base 3 "_law_same" f25 _ ["found", "due"] (spA K 2 Fsame2) := ok_law_same2 D25 B F_same1
    have F_start : Fn l.prog w K mg base 1 "_law_start" f21 _ ["script"] (spStart K) := ok_law_start D21 B
    exact ok_law D30 B GG' F_start F_draw F_a_names F_mixed F_q F_wanting_ring F_turned F_order_for F_isring F_is_wanting_ring F_loose (fn_or F_same2 (F_same0.up (by decide))) F_is_order_for F_wanting
  case bt => exact .of_eq rfl

theorem walk {l : PySem.W.OpenLaw} {q : Program} {loose : List Str} {XP : (Str → Option Value) → Heap → Prop} {YP : World → Heap → Prop} {d : DefRec} {K : Params → PySem.W.Frag} (hn : l.most = some 63) (hdf : d.params.defaults = [])
    (hY : ∀ (w : World) (h : Heap), YP w h → (K w.params).In h)
    (F : ∀ (w : World) (mg : Str → Option Value) (fa : Addr) (h : Heap), (K w.params).In h → h.Ns mainGlobals mg → mg d.name = some (.ref fa) →
      ∃ fd : FuncData, (∀ (s : Shared) (u : Value), BindsTo s fd ⟨[u], []⟩ [("script", u)]) ∧ ∀ base : Heap, (K w.params).In base → base.Ns mainGlobals mg → FnOk l.prog w (K w.params) mg base CX0 7 fa fd ["script"] (spLaw (K w.params))) :
    PySem.W.WalkO q loose XP YP l.row.toRowW d [] (fun f vs => PySem.call f vs) :=
  L2.walk_of (n := 63) (k := 7) (x := "script") (CX := fun _ => CX0) (sp := fun w => spLaw (K w.params)) hn (by decide) hdf ⟨rfl, by decide, by decide⟩ hY F (fun _ _ a ns hl _ hS => ⟨a, ns, rfl, hS, hl, fun _ => rfl⟩) fun _ _ _ _ _ z => z
end Y

open PySem PySem.W PyProof.Rows
set_option maxRecDepth 100000 in
set_option maxHeartbeats 0 in
theorem PySem.Challenge.cw_dealhouse_k61_main_wanting_rings_passed_holds : PySem.Challenge.rw_dealhouse_k61_main_wanting_rings_passed.Holds := by
  w_on; o_law; k_head; (case hw => w_witness2)
  k_fill
  refine Y.walk (l := PySem.Challenge.rw_dealhouse_k61_main_wanting_rings_passed) rfl rfl (fun w h Y => PySem.W.kIn_of Y) ?F
  case F =>
    intro w mg fa h KX G hmg
    refine' Y.all_mk KX G hmg ?aC ?aI ?lI ?iI ?cI ?kI ?a0 ?l0 ?c0 ?k0 ?a1 ?l1 ?c1 ?k1 ?a2 ?l2 ?c2 ?k2 ?a3 ?l3 ?c3 ?k3 ?a4 ?l4 ?c4 ?k4 ?a5 ?l5 ?c5 ?k5 ?a6 ?l6 ?c6 ?k6 ?a7 ?l7 ?c7 ?k7 ?a8 ?l8 ?c8 ?k8 ?a9 ?l9 ?c9 ?k9 ?a10 ?l10 ?c10 ?k10 ?a11 ?l11 ?c11 ?k11 ?a12 ?l12 ?c12 ?k12 ?a13 ?l13 ?c13 ?k13 ?a14 ?l14 ?c14 ?k14 ?a15 ?l15 ?c15 ?k15 ?a16 ?l16 ?c16 ?k16 ?a17 ?l17 ?c17 ?k17 ?a18 ?l18 ?c18 ?k18 ?a19 ?l19 ?c19 ?k19 ?a20 ?l20 ?c20 ?k20 ?a21 ?l21 ?c21 ?k21 ?a22 ?l22 ?c22 ?k22 ?a23 ?l23 ?c23 ?k23 ?a24 ?l24 ?c24 ?k24 ?a25 ?l25 ?c25 ?k25 ?a26 ?l26 ?c26 ?k26 ?a27 ?l27 ?c27 ?k27 ?a28 ?l28 ?c28 ?k28 ?a29 ?l29 ?c29 ?k29 ?a30 ?l30 ?c30 ?k30 ?pg ?hd ?po ?sa ?mk ?kC ?hha ?hhn ?htk ?hmr ?nP ?nT ?nR ?g1 ?e1 ?g2 ?e2 ?g3 ?lW ?w1 ?w2 ?w3 ?w4 ?b_len ?b_list ?b_tuple ?b_dict ?b_isinstance ?b_all ?b_enumerate ?b_zip ?b_sorted ?b_range ?b_str ?b_int ?b_max ?b_bool
    (case aC => k_is)
    (case aI => k_is)
    (case lI => k_is)
    (case iI => k_is)
    (case cI => k_is)
    (case kI => k_is)
    (case a0 => k_is)
    (case l0 => k_is)
    (case c0 => k_is)
    (case k0 => k_is)
    (case a1 => k_is)
    (case l1 => k_is)
    (case c1 => k_is)
    (case k1 => k_is)
    (case a2 => k_is)
    (case l2 => k_is)
    (case c2 => k_is)
    (case k2 => k_is)
    (case a3 => k_is)
    (case l3 => k_is)
    (case c3 => k_is)
    (case k3 => k_is)
    (case a4 => k_is)
    (case l4 => k_is)
    (case c4 => k_is)
    (case k4 => k_is)
    (case a5 => k_is)
    (case l5 => k_is)
    (case c5 => k_is)
    (case k5 => k_is)
    (case a6 => k_is)
    (case l6 => k_is)
    (case c6 => k_is)
    (case k6 => k_is)
    (case a7 => k_is)
    (case l7 => k_is)
    (case c7 => k_is)
    (case k7 => k_is)
    (case a8 => k_is)
    (case l8 => k_is)
    (case c8 => k_is)
    (case k8 => k_is)
    (case a9 => k_is)
    (case l9 => k_is)
    (case c9 => k_is)
    (case k9 => k_is)
    (case a10 => k_is)
    (case l10 => k_is)
    (case c10 => k_is)
    (case k10 => k_is)
    (case a11 => k_is)
    (case l11 => k_is)
    (case c11 => k_is)
    (case k11 => k_is)
    (case a12 => k_is)
    (case l12 => k_is)
    (case c12 => k_is)
    (case k12 => k_is)
    (case a13 => k_is)
    (case l13 => k_is)
    (case c13 => k_is)
    (case k13 => k_is)
    (case a14 => k_is)
    (case l14 => k_is)
    (case c14 => k_is)
    (case k14 => k_is)
    (case a15 => k_is)
    (case l15 => k_is)
    (case c15 => k_is)
    (case k15 => k_is)
    (case a16 => k_is)
    (case l16 => k_is)
    (case c16 => k_is)
    (case k16 => k_is)
    (case a17 => k_is)
    (case l17 => k_is)
    (case c17 => k_is)
    (case k17 => k_is)
    (case a18 => k_is)
    (case l18 => k_is)
    (case c18 => k_is)
    (case k18 => k_is)
    (case a19 => k_is)
    (case l19 => k_is)
    (case c19 => k_is)
    (case k19 => k_is)
    (case a20 => k_is)
    (case l20 => k_is)
    (case c20 => k_is)
    (case k20 => k_is)
    (case a21 => k_is)
    (case l21 => k_is)
    (case c21 => k_is)
    (case k21 => k_is)
    (case a22 => k_is)
    (case l22 => k_is)
    (case c22 => k_is)
    (case k22 => k_is)
    (case a23 => k_is)
    (case l23 => k_is)
    (case c23 => k_is)
    (case k23 => k_is)
    (case a24 => k_is)
    (case l24 => k_is)
    (case c24 => k_is)
    (case k24 => k_is)
    (case a25 => k_is)
    (case l25 => k_is)
    (case c25 => k_is)
    (case k25 => k_is)
    (case a26 => k_is)
    (case l26 => k_is)
    (case c26 => k_is)
    (case k26 => k_is)
    (case a27 => k_is)
    (case l27 => k_is)
    (case c27 => k_is)
    (case k27 => k_is)
    (case a28 => k_is)
    (case l28 => k_is)
    (case c28 => k_is)
    (case k28 => k_is)
    (case a29 => k_is)
    (case l29 => k_is)
    (case c29 => k_is)
    (case k29 => k_is)
    (case a30 => k_is)
    (case l30 => k_is)
    (case c30 => k_is)
    (case k30 => k_is)
    (case pg => k_is)
    (case hd => k_is)
    (case po => k_is)
    (case sa => k_is)
    (case mk => k_is)
    (case kC => k_is)
    (case hha => k_is)
    (case hhn => k_is)
    (case htk => k_is)
    (case hmr => k_is)
    (case nP => k_is)
    (case nT => k_is)
    (case nR => k_is)
    (case g1 => k_is)
    (case e1 => decide +kernel)
    (case g2 => k_is)
    (case e2 => decide +kernel)
    (case g3 => k_is)
    (case lW => k_is)
    (case w1 => rfl)
    (case w2 => rfl)
    (case w3 => decide +kernel)
    (case w4 => repeat (first | exact .nil | refine .cons ⟨_, rfl⟩ ?_))
    (case b_len => k_is)
    (case b_list => k_is)
    (case b_tuple => k_is)
    (case b_dict => k_is)
    (case b_isinstance => k_is)
    (case b_all => k_is)
    (case b_enumerate => k_is)
    (case b_zip => k_is)
    (case b_sorted => k_is)
    (case b_range => k_is)
    (case b_str => k_is)
    (case b_int => k_is)
    (case b_max => k_is)
    (case b_bool => k_is)
#print axioms PySem.Challenge.cw_dealhouse_k61_main_wanting_rings_passed_holds
