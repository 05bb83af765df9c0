import PyProof.Rows.All
import Wide.All
import OpenK.AllK
import Wide.FinOn
import HandS.ForMost
import HandS.Exc
import HandS.Nested
import HandS.NestedK
import HandS.Conv
import HandS.TupAny
import HandS.TupMul
import HandS.Style
import HandS.Strs
import HandS.IsInst
import HandS.RaiseMore
import HandS.ReCall
import HandS.SetFor
import HandS.Walk
import KE.GoesEnum
import KE.DataMinMax
import KE.DataFind
import KE.KIntText
import PySem.Challenge.RW_goesout_k28_whole_walks_and_runs
import HandS.Dict
import HandS.WordsDict
import KE.KStateDown
import HandS.Defaults
import HandS.Head0
import HandS.Head1
import HandS.Head2
import HandS.HeadHook1
import HandS.HeadHook2
import HandS.HeadHook3
import HandS.HeadHook4
import HandS.HeadWalk
set_option Elab.async false
set_option linter.all false
set_option maxRecDepth 100000
set_option maxHeartbeats 0
/-! The plain law: caches, moves, walks. -/
namespace G28
abbrev Mv := List Nat × Nat
structure LRow where
  hits : List Mv
  out : Nat
  comes : List Mv
instance : Inhabited LRow := ⟨⟨[], 0, []⟩⟩
structure Rule where
  places : Nat
  rows : List LRow
abbrev Sta := List Int × Nat

/-! ### what asking does -/
def arr (row : List Int) (o : List Nat) : List Int := o.map fun i => row.getD i (-1)
def place (lr : LRow) (row : List Int) : Nat := if (-1) ∈ row then row.idxOf (-1) else lr.out
def lrow (r : Rule) (l : Nat) : LRow := r.rows.getD l default
def hitM (lr : LRow) (row : List Int) (t : Int) : Mv := lr.hits.getD (row.idxOf t) default
def comeM (lr : LRow) (row : List Int) : Mv := lr.comes.getD (place lr row) default
def gone (lr : LRow) (row : List Int) : Option Int := if row.getD (place lr row) (-1) = -1 then none else some (row.getD (place lr row) (-1))
def step (r : Rule) (s : Sta) (t : Int) : Bool × Option Int × Sta :=
  if t ∈ s.1 then (true, none, (arr s.1 (hitM (lrow r s.2) s.1 t).1, (hitM (lrow r s.2) s.1 t).2))
  else (false, gone (lrow r s.2) s.1, (arr (s.1.set (place (lrow r s.2) s.1) t) (comeM (lrow r s.2) s.1).1, (comeM (lrow r s.2) s.1).2))
def nxt (r : Rule) (s : Sta) (t : Int) : Sta := (step r s t).2.2
def hit (r : Rule) (s : Sta) (t : Int) : Bool := (step r s t).1
def first (r : Rule) : Sta := (List.replicate r.places (-1), 0)

/-! ### what is well made -/
def OrdOk (n : Nat) (o : List Nat) : Prop := o.Perm (List.range n)
def MvOk (n L : Nat) (m : Mv) : Prop := OrdOk n m.1 ∧ m.2 < L
structure RowOk (n L : Nat) (lr : LRow) : Prop where
  hl : lr.hits.length = n
  hits : ∀ m ∈ lr.hits, MvOk n L m
  out : lr.out < n
  cl : lr.comes.length = n
  comes : ∀ m ∈ lr.comes, MvOk n L m
structure RuleOk (r : Rule) : Prop where
  p1 : 1 ≤ r.places
  p4 : r.places ≤ 4
  l1 : 1 ≤ r.rows.length
  l16 : r.rows.length ≤ 16
  rows : ∀ lr ∈ r.rows, RowOk r.places r.rows.length lr
structure StaOk (r : Rule) (s : Sta) : Prop where
  len : s.1.length = r.places
  lab : s.2 < r.rows.length
  rng : ∀ x ∈ s.1, -1 ≤ x ∧ x ≤ 99
  nd : (s.1.filter (fun x => decide (x ≠ -1))).Nodup

theorem arr_perm {row : List Int} {o : List Nat} (h : OrdOk row.length o) : (arr row o).Perm row := by
  have h1 : (arr row o).Perm ((List.range row.length).map fun i => row.getD i (-1)) := h.map _
  have h2 : ((List.range row.length).map fun i => row.getD i (-1)) = row := by
    apply List.ext_getElem
    · simp
    · intro i h1 h2
      simp [List.getD, List.getElem?_eq_getElem h2]
  rw [h2] at h1
  exact h1
theorem arr_len (row : List Int) (o : List Nat) : (arr row o).length = o.length := by simp [arr]
theorem ord_len {n : Nat} {o : List Nat} (h : OrdOk n o) : o.length = n := by
  have := h.length_eq
  simpa using this
theorem ord_lt {n : Nat} {o : List Nat} (h : OrdOk n o) : ∀ i ∈ o, i < n := fun i hi => by
  have := h.mem_iff.mp hi
  simpa using this

theorem getD_mem {α : Type} [Inhabited α] {l : List α} {i : Nat} (h : i < l.length) : l.getD i default ∈ l := by
  rw [List.getD, List.getElem?_eq_getElem h]
  exact List.getElem_mem h
theorem lrow_ok {r : Rule} (R : RuleOk r) {l : Nat} (h : l < r.rows.length) : RowOk r.places r.rows.length (lrow r l) := R.rows _ (getD_mem h)
theorem place_lt {n L : Nat} {lr : LRow} (R : RowOk n L lr) {row : List Int} (h : row.length = n) : place lr row < n := by
  unfold place
  split
  · rename_i hm
    have := List.idxOf_lt_length_iff.mpr hm
    omega
  · exact R.out
theorem hitM_ok {n L : Nat} {lr : LRow} (R : RowOk n L lr) {row : List Int} (h : row.length = n) {t : Int} (ht : t ∈ row) : MvOk n L (hitM lr row t) := by
  have := List.idxOf_lt_length_iff.mpr ht
  exact R.hits _ (getD_mem (by rw [R.hl]; omega))
theorem comeM_ok {n L : Nat} {lr : LRow} (R : RowOk n L lr) {row : List Int} (h : row.length = n) : MvOk n L (comeM lr row) :=
  R.comes _ (getD_mem (by rw [R.cl]; exact place_lt R h))

theorem set_split {row : List Int} {p : Nat} {t : Int} (h : p < row.length) : row.set p t = row.take p ++ t :: row.drop (p + 1) := by
  rw [List.set_eq_take_append_cons_drop, if_pos h]
theorem row_split {row : List Int} {p : Nat} (h : p < row.length) : row = row.take p ++ row[p] :: row.drop (p + 1) := by
  rw [← List.drop_eq_getElem_cons h, List.take_append_drop]
theorem nxt_ok {r : Rule} (R : RuleOk r) {s : Sta} (S : StaOk r s) {t : Int} (ht : 0 ≤ t ∧ t ≤ 99) : StaOk r (nxt r s t) := by
  have Q := lrow_ok R S.lab
  unfold nxt step
  split
  · rename_i hm
    have M := hitM_ok Q S.len hm
    have P := arr_perm (row := s.1) (o := (hitM (lrow r s.2) s.1 t).1) (by rw [S.len]; exact M.1)
    exact ⟨by rw [P.length_eq]; exact S.len, M.2, fun x hx => S.rng x (P.mem_iff.mp hx), (P.filter _).nodup_iff.mpr S.nd⟩
  · rename_i hm
    have M := comeM_ok Q S.len
    have hp : place (lrow r s.2) s.1 < s.1.length := by rw [S.len]; exact place_lt Q S.len
    have P := arr_perm (row := s.1.set (place (lrow r s.2) s.1) t) (o := (comeM (lrow r s.2) s.1).1) (by rw [List.length_set, S.len]; exact M.1)
    refine ⟨by rw [P.length_eq, List.length_set]; exact S.len, M.2, fun x hx => ?_, (P.filter _).nodup_iff.mpr ?_⟩
    · rcases List.mem_or_eq_of_mem_set (P.mem_iff.mp hx) with h | h
      · exact S.rng x h
      · omega
    · have nd := S.nd
      rw [row_split hp, List.filter_append, List.filter_cons] at nd
      rw [set_split hp, List.filter_append, List.filter_cons, if_pos (by simpa using (by omega : t ≠ -1))]
      have n1 : t ∉ (s.1.take (place (lrow r s.2) s.1)).filter (fun x => decide (x ≠ -1)) := fun h => hm (List.mem_of_mem_take (List.mem_filter.mp h).1)
      have n2 : t ∉ (s.1.drop (place (lrow r s.2) s.1 + 1)).filter (fun x => decide (x ≠ -1)) := fun h => hm (List.mem_of_mem_drop (List.mem_filter.mp h).1)
      have nd2 : ((s.1.take (place (lrow r s.2) s.1)).filter (fun x => decide (x ≠ -1)) ++ (s.1.drop (place (lrow r s.2) s.1 + 1)).filter (fun x => decide (x ≠ -1))).Nodup := by
        refine nd.sublist (List.Sublist.append (List.Sublist.refl _) ?_)
        split
        · exact List.sublist_cons_self _ _
        · exact List.Sublist.refl _
      obtain ⟨a1, a2, a3⟩ := List.nodup_append.mp nd2
      refine List.nodup_append.mpr ⟨a1, List.nodup_cons.mpr ⟨n2, a2⟩, fun x hx y hy e => ?_⟩
      rcases List.mem_cons.mp hy with h | h
      · exact n1 (by rw [← h, ← e]; exact hx)
      · exact a3 x hx y h e
theorem first_ok {r : Rule} (R : RuleOk r) : StaOk r (first r) := by
  refine ⟨by simp [first], by have := R.l1; simp [first]; omega, fun x hx => ?_, ?_⟩
  · have := List.eq_of_mem_replicate hx
    omega
  · have e : (List.replicate r.places (-1 : Int)).filter (fun x => decide (x ≠ -1)) = [] := by
      rw [List.filter_eq_nil_iff]
      intro x hx
      have := List.eq_of_mem_replicate hx
      simp [this]
    show ((List.replicate r.places (-1 : Int)).filter (fun x => decide (x ≠ -1))).Nodup
    rw [e]
    exact List.nodup_nil
/-- a thing of a row stands there once -/
theorem count_one {r : Rule} {s : Sta} (S : StaOk r s) {x : Int} (hx : x ∈ s.1) (h : x ≠ -1) : s.1.count x = 1 := by
  have h1 : (s.1.filter (fun x => decide (x ≠ -1))).count x = 1 := by
    have m : x ∈ s.1.filter (fun x => decide (x ≠ -1)) := List.mem_filter.mpr ⟨hx, by simpa using h⟩
    have a := List.nodup_iff_count.mp S.nd x
    have b := List.count_pos_iff.mpr m
    omega
  rw [List.count_filter (by simpa using h)] at h1
  exact h1
end G28
namespace G28
/-! ### numbering things as they come -/
def addK (acc : List Int) (x : Int) : List Int := if x = -1 ∨ x ∈ acc then acc else acc ++ [x]
def known (xs : List Int) : List Int := xs.foldl addK []
def num (k : List Int) (x : Int) : Int := if x = -1 then -1 else (k.idxOf x : Int)
def ren (f : Int → Int) (s : Sta) : Sta := (s.1.map f, s.2)
def named (a b : Sta) : Sta × Sta := (ren (num (known (a.1 ++ b.1))) a, ren (num (known (a.1 ++ b.1))) b)

theorem addK_mem {acc : List Int} {x y : Int} : y ∈ addK acc x ↔ y ∈ acc ∨ (y = x ∧ x ≠ -1) := by
  unfold addK
  split
  · rename_i h
    constructor
    · exact .inl
    · rintro (h1 | ⟨rfl, h2⟩)
      · exact h1
      · rcases h with h | h
        · exact absurd h h2
        · exact h
  · rename_i h
    have h' : ¬ x = -1 ∧ ¬ x ∈ acc := ⟨fun e => h (.inl e), fun e => h (.inr e)⟩
    rw [List.mem_append, List.mem_singleton]
    constructor
    · rintro (h1 | h1)
      · exact .inl h1
      · exact .inr ⟨h1, h'.1⟩
    · rintro (h1 | h1)
      · exact .inl h1
      · exact .inr h1.1
theorem addK_nodup {acc : List Int} {x : Int} (h : acc.Nodup) : (addK acc x).Nodup := by
  unfold addK
  split
  · exact h
  · rename_i h'
    refine List.nodup_append.mpr ⟨h, by simp, fun a ha b hb e => ?_⟩
    rw [List.mem_singleton] at hb
    exact h' (.inr (by rw [← hb, ← e]; exact ha))
theorem fold_mem : ∀ (xs acc : List Int) (y : Int), y ∈ xs.foldl addK acc ↔ y ∈ acc ∨ (y ∈ xs ∧ y ≠ -1)
  | [], acc, y => by simp
  | x :: xs, acc, y => by
    rw [List.foldl_cons, fold_mem xs (addK acc x) y, addK_mem, List.mem_cons]
    constructor
    · rintro ((h | ⟨h1, h2⟩) | ⟨h1, h2⟩)
      · exact .inl h
      · exact .inr ⟨.inl h1, by rw [h1]; exact h2⟩
      · exact .inr ⟨.inr h1, h2⟩
    · rintro (h | ⟨h1 | h1, h2⟩)
      · exact .inl (.inl h)
      · exact .inl (.inr ⟨h1, by rw [← h1]; exact h2⟩)
      · exact .inr ⟨h1, h2⟩
theorem known_mem {xs : List Int} {y : Int} : y ∈ known xs ↔ y ∈ xs ∧ y ≠ -1 := by
  unfold known
  rw [fold_mem]
  simp
theorem fold_nodup : ∀ (xs acc : List Int), acc.Nodup → (xs.foldl addK acc).Nodup
  | [], _, h => h
  | _ :: xs, _, h => fold_nodup xs _ (addK_nodup h)
theorem known_nodup (xs : List Int) : (known xs).Nodup := fold_nodup xs [] List.nodup_nil

/-- f keeps the things of S apart, and the blank -/
structure Apart (f : Int → Int) (S : Int → Prop) : Prop where
  inj : ∀ x y, S x → S y → f x = f y → x = y
  bl : ∀ x, S x → (f x = -1 ↔ x = -1)
  b1 : f (-1) = -1
theorem Apart.mono {f : Int → Int} {S T : Int → Prop} (A : Apart f S) (h : ∀ x, T x → S x) : Apart f T :=
  ⟨fun x y a b => A.inj x y (h x a) (h y b), fun x a => A.bl x (h x a), A.b1⟩
theorem mem_map_iff {f : Int → Int} {S : Int → Prop} (A : Apart f S) {l : List Int} (hl : ∀ x ∈ l, S x) {x : Int} (hx : S x) : f x ∈ l.map f ↔ x ∈ l := by
  rw [List.mem_map]
  constructor
  · rintro ⟨y, hy, e⟩
    rw [← A.inj y x (hl y hy) hx e]
    exact hy
  · exact fun h => ⟨x, h, rfl⟩
theorem idx_map {f : Int → Int} {S : Int → Prop} (A : Apart f S) : ∀ {l : List Int}, (∀ x ∈ l, S x) → ∀ {x : Int}, S x → (l.map f).idxOf (f x) = l.idxOf x
  | [], _, _, _ => rfl
  | a :: l, hl, x, hx => by
    rw [List.map_cons, List.idxOf_cons, List.idxOf_cons]
    have e : (f a == f x) = (a == x) := by
      rw [Bool.eq_iff_iff, beq_iff_eq, beq_iff_eq]
      exact ⟨A.inj a x (hl a List.mem_cons_self) hx, fun h => by rw [h]⟩
    rw [e, idx_map A (fun y hy => hl y (List.mem_cons_of_mem _ hy)) hx]
theorem fold_map {f : Int → Int} {S : Int → Prop} (A : Apart f S) : ∀ (xs acc : List Int), (∀ x ∈ xs, S x) → (∀ x ∈ acc, S x) → (xs.map f).foldl addK (acc.map f) = (xs.foldl addK acc).map f
  | [], _, _, _ => rfl
  | x :: xs, acc, h1, h2 => by
    rw [List.map_cons, List.foldl_cons, List.foldl_cons]
    have hx := h1 x List.mem_cons_self
    have e : addK (acc.map f) (f x) = (addK acc x).map f := by
      unfold addK
      have c : (f x = -1 ∨ f x ∈ acc.map f) ↔ (x = -1 ∨ x ∈ acc) := by rw [A.bl x hx, mem_map_iff A h2 hx]
      by_cases q : x = -1 ∨ x ∈ acc
      · rw [if_pos q, if_pos (c.mpr q)]
      · rw [if_neg q, if_neg (fun z => q (c.mp z)), List.map_append, List.map_cons, List.map_nil]
    rw [e]
    refine fold_map A xs (addK acc x) (fun y hy => h1 y (List.mem_cons_of_mem _ hy)) fun y hy => ?_
    rcases addK_mem.mp hy with h | ⟨h, _⟩
    · exact h2 y h
    · rw [h]
      exact hx
theorem known_map {f : Int → Int} {S : Int → Prop} (A : Apart f S) {xs : List Int} (h : ∀ x ∈ xs, S x) : known (xs.map f) = (known xs).map f := by
  have := fold_map A xs [] h (by simp)
  exact this
theorem num_map {f : Int → Int} {S : Int → Prop} (A : Apart f S) {k : List Int} (hk : ∀ x ∈ k, S x) {x : Int} (hx : S x) : num (k.map f) (f x) = num k x := by
  unfold num
  rw [idx_map A hk hx]
  by_cases e : x = -1
  · rw [if_pos e, if_pos ((A.bl x hx).mpr e)]
  · rw [if_neg e, if_neg (fun z => e ((A.bl x hx).mp z))]
theorem named_ren {f : Int → Int} {S : Int → Prop} (A : Apart f S) {a b : Sta} (ha : ∀ x ∈ a.1, S x) (hb : ∀ x ∈ b.1, S x) : named (ren f a) (ren f b) = named a b := by
  have hab : ∀ x ∈ a.1 ++ b.1, S x := fun x hx => (List.mem_append.mp hx).elim (ha x) (hb x)
  have e1 : known ((ren f a).1 ++ (ren f b).1) = (known (a.1 ++ b.1)).map f := by
    show known (a.1.map f ++ b.1.map f) = _
    rw [← List.map_append, known_map A hab]
  have hk : ∀ x ∈ known (a.1 ++ b.1), S x := fun x hx => hab x (known_mem.mp hx).1
  unfold named
  rw [e1]
  have key : ∀ s : Sta, (∀ x ∈ s.1, S x) → ren (num ((known (a.1 ++ b.1)).map f)) (ren f s) = ren (num (known (a.1 ++ b.1))) s := fun s hs => by
    unfold ren
    refine Prod.ext ?_ rfl
    show (s.1.map f).map (num ((known (a.1 ++ b.1)).map f)) = s.1.map (num (known (a.1 ++ b.1)))
    rw [List.map_map]
    exact List.map_congr_left fun x hx => num_map A hk (hs x hx)
  rw [key a ha, key b hb]

/-! ### a step behind a renaming -/
theorem getD_map {f : Int → Int} (b1 : f (-1) = -1) (l : List Int) (i : Nat) : (l.map f).getD i (-1) = f (l.getD i (-1)) := by
  rw [List.getD, List.getD, List.getElem?_map]
  cases l[i]? with
  | none => exact b1.symm
  | some x => rfl
theorem arr_map {f : Int → Int} (b1 : f (-1) = -1) (l : List Int) (o : List Nat) : arr (l.map f) o = (arr l o).map f := by
  unfold arr
  rw [List.map_map]
  exact List.map_congr_left fun i _ => getD_map b1 l i
theorem place_map {f : Int → Int} {S : Int → Prop} (A : Apart f S) (hS : S (-1)) (lr : LRow) {l : List Int} (hl : ∀ x ∈ l, S x) : place lr (l.map f) = place lr l := by
  unfold place
  have e : (-1) ∈ l.map f ↔ (-1) ∈ l := by
    have := mem_map_iff A hl hS
    rw [A.b1] at this
    exact this
  have e2 := idx_map A hl hS
  rw [A.b1] at e2
  by_cases q : (-1) ∈ l
  · rw [if_pos q, if_pos (e.mpr q), e2]
  · rw [if_neg q, if_neg (fun z => q (e.mp z))]
theorem nxt_ren {f : Int → Int} {S : Int → Prop} (A : Apart f S) (hS : S (-1)) (r : Rule) {s : Sta} (hs : ∀ x ∈ s.1, S x) {t : Int} (ht : S t) :
    hit r (ren f s) (f t) = hit r s t ∧ nxt r (ren f s) (f t) = ren f (nxt r s t) := by
  unfold hit nxt step
  have c := mem_map_iff A hs ht
  have e1 : hitM (lrow r s.2) (s.1.map f) (f t) = hitM (lrow r s.2) s.1 t := by
    unfold hitM
    rw [idx_map A hs ht]
  have e2 : comeM (lrow r s.2) (s.1.map f) = comeM (lrow r s.2) s.1 := by
    unfold comeM
    rw [place_map A hS _ hs]
  by_cases q : t ∈ s.1
  · rw [if_pos q, if_pos (show f t ∈ (ren f s).1 from c.mpr q)]
    refine ⟨rfl, ?_⟩
    show (arr (s.1.map f) (hitM (lrow r s.2) (s.1.map f) (f t)).1, (hitM (lrow r s.2) (s.1.map f) (f t)).2) = ren f (arr s.1 (hitM (lrow r s.2) s.1 t).1, (hitM (lrow r s.2) s.1 t).2)
    rw [e1, arr_map A.b1] <;> rfl
  · rw [if_neg q, if_neg (show ¬ f t ∈ (ren f s).1 from fun z => q (c.mp z))]
    refine ⟨rfl, ?_⟩
    show (arr ((s.1.map f).set (place (lrow r s.2) (s.1.map f)) (f t)) (comeM (lrow r s.2) (s.1.map f)).1, (comeM (lrow r s.2) (s.1.map f)).2) = ren f (arr (s.1.set (place (lrow r s.2) s.1) t) (comeM (lrow r s.2) s.1).1, (comeM (lrow r s.2) s.1).2)
    rw [e2, place_map A hS _ hs, ← List.map_set, arr_map A.b1] <;> rfl

/-! ### the numbering keeps apart -/
theorem idx_inj {k : List Int} {x y : Int} (hx : x ∈ k) (h : k.idxOf x = k.idxOf y) : x = y := by
  have h1 := List.idxOf_lt_length_iff.mpr hx
  have h2 : k.idxOf y < k.length := by omega
  have e1 : k[k.idxOf x] = x := List.getElem_idxOf h1
  have e2 : k[k.idxOf y] = y := List.getElem_idxOf h2
  rw [← e1, ← e2]
  simp only [h]
/-- the things of k, the blank, and one more thing -/
def Seen (k : List Int) (t : Int) (x : Int) : Prop := x = -1 ∨ x ∈ k ∨ x = t
theorem num_apart {k : List Int} (t : Int) : Apart (num k) (Seen k t) := by
  have nn : ∀ x, x ≠ -1 → num k x = (k.idxOf x : Int) := fun x h => if_neg h
  have bl : ∀ x, num k x = -1 ↔ x = -1 := fun x => by
    by_cases e : x = -1
    · simp [e, num]
    · rw [nn x e]
      constructor
      · intro h; omega
      · intro h; exact absurd h e
  refine ⟨fun x y hx hy e => ?_, fun x _ => bl x, if_pos rfl⟩
  by_cases ex : x = -1
  · rw [ex] at e
    rw [(show num k (-1) = -1 from if_pos rfl)] at e
    rw [ex, (bl y).mp e.symm]
  by_cases ey : y = -1
  · rw [ey, (show num k (-1) = -1 from if_pos rfl)] at e
    rw [ey, (bl x).mp e]
  rw [nn x ex, nn y ey] at e
  have e' : k.idxOf x = k.idxOf y := by omega
  rcases hx with h | h | h
  · exact absurd h ex
  · exact idx_inj h e'
  · rcases hy with g | g | g
    · exact absurd g ey
    · exact (idx_inj g e'.symm).symm
    · rw [h, g]

/-! ### moves -/
def mv (one other : Rule) (A : Sta × Sta) (n : Int) : Sta × Sta := named (nxt one A.1 n) (nxt other A.2 n)
def kn (A : Sta × Sta) : List Int := known (A.1.1 ++ A.2.1)
def nam (A : Sta × Sta) : Sta × Sta := named A.1 A.2
def ask (one other : Rule) (A : Sta × Sta) (t : Int) : Sta × Sta := (nxt one A.1 t, nxt other A.2 t)
theorem nxt_seen {r : Rule} (R : RuleOk r) {s : Sta} (S : StaOk r s) {k : List Int} {t : Int} (hk : ∀ x ∈ s.1, x = -1 ∨ x ∈ k) : ∀ x ∈ (nxt r s t).1, Seen k t x := by
  have Q := lrow_ok R S.lab
  unfold nxt step
  intro x
  split
  · rename_i hm
    intro hx
    have P := arr_perm (row := s.1) (o := (hitM (lrow r s.2) s.1 t).1) (by rw [S.len]; exact (hitM_ok Q S.len hm).1)
    rcases hk x (P.mem_iff.mp hx) with h | h
    · exact .inl h
    · exact .inr (.inl h)
  · intro hx
    have P := arr_perm (row := s.1.set (place (lrow r s.2) s.1) t) (o := (comeM (lrow r s.2) s.1).1) (by rw [List.length_set, S.len]; exact (comeM_ok Q S.len).1)
    rcases List.mem_or_eq_of_mem_set (P.mem_iff.mp hx) with h | h
    · rcases hk x h with h | h
      · exact .inl h
      · exact .inr (.inl h)
    · exact .inr (.inr h)
/-- THE STEP: a move by a thing's number is what asking for the thing does, named -/
theorem mv_named {one other : Rule} (R1 : RuleOk one) (R2 : RuleOk other) {A : Sta × Sta} (S1 : StaOk one A.1) (S2 : StaOk other A.2) (t : Int) :
    hit one (nam A).1 (num (kn A) t) = hit one A.1 t ∧ hit other (nam A).2 (num (kn A) t) = hit other A.2 t ∧ mv one other (nam A) (num (kn A) t) = nam (ask one other A t) := by
  have P := num_apart (k := kn A) t
  have k1 : ∀ x ∈ A.1.1, x = -1 ∨ x ∈ kn A := fun x hx => by
    by_cases e : x = -1
    · exact .inl e
    · exact .inr (known_mem.mpr ⟨List.mem_append_left _ hx, e⟩)
  have k2 : ∀ x ∈ A.2.1, x = -1 ∨ x ∈ kn A := fun x hx => by
    by_cases e : x = -1
    · exact .inl e
    · exact .inr (known_mem.mpr ⟨List.mem_append_right _ hx, e⟩)
  have up : ∀ x, (x = -1 ∨ x ∈ kn A) → Seen (kn A) t x := fun x h => h.elim .inl fun h => .inr (.inl h)
  have a := nxt_ren P (.inl rfl) one (s := A.1) (fun x hx => up x (k1 x hx)) (t := t) (.inr (.inr rfl))
  have b := nxt_ren P (.inl rfl) other (s := A.2) (fun x hx => up x (k2 x hx)) (t := t) (.inr (.inr rfl))
  refine ⟨a.1, b.1, ?_⟩
  show named (nxt one (ren (num (kn A)) A.1) (num (kn A) t)) (nxt other (ren (num (kn A)) A.2) (num (kn A) t)) = _
  rw [a.2, b.2]
  exact named_ren P (nxt_seen R1 S1 k1) (nxt_seen R2 S2 k2)
end G28
namespace G28
/-! ### how many things; arrangements -/
def top (xs : List Int) : Int := xs.foldl (fun m x => if m < x then x else m) (-1)
def many (A : Sta × Sta) : Int := ((kn A).length : Int)
structure PairOk (one other : Rule) (A : Sta × Sta) : Prop where
  a : StaOk one A.1
  b : StaOk other A.2
theorem ask_ok {one other : Rule} (R1 : RuleOk one) (R2 : RuleOk other) {A : Sta × Sta} (h : PairOk one other A) {t : Int} (ht : 0 ≤ t ∧ t ≤ 99) : PairOk one other (ask one other A t) := ⟨nxt_ok R1 h.a ht, nxt_ok R2 h.b ht⟩
theorem nam_idem (A : Sta × Sta) : nam (nam A) = nam A := by
  have P := num_apart (k := kn A) (-1)
  have hk : ∀ x ∈ A.1.1 ++ A.2.1, Seen (kn A) (-1) x := fun x hx => by
    by_cases e : x = -1
    · exact .inl e
    · exact .inr (.inl (known_mem.mpr ⟨hx, e⟩))
  exact named_ren P (fun x hx => hk x (List.mem_append_left _ hx)) (fun x hx => hk x (List.mem_append_right _ hx))
theorem fold_len : ∀ (xs acc : List Int), (xs.foldl addK acc).length ≤ acc.length + xs.length
  | [], acc => Nat.le_refl _
  | x :: xs, acc => by
    have h := fold_len xs (addK acc x)
    have e : (addK acc x).length ≤ acc.length + 1 := by
      unfold addK
      split
      · omega
      · rw [List.length_append] <;> exact Nat.le_refl _
    rw [List.foldl_cons, List.length_cons]
    omega
theorem known_len (xs : List Int) : (known xs).length ≤ xs.length := by
  have := fold_len xs []
  rw [List.length_nil, Nat.zero_add] at this
  exact this
theorem kn_len {one other : Rule} (R1 : RuleOk one) (R2 : RuleOk other) {A : Sta × Sta} (h : PairOk one other A) : (kn A).length ≤ 8 := by
  have := known_len (A.1.1 ++ A.2.1)
  have e : kn A = known (A.1.1 ++ A.2.1) := rfl
  rw [e]
  rw [List.length_append, h.a.len, h.b.len] at this
  have := R1.p4
  have := R2.p4
  omega
theorem num_lt {k : List Int} {x : Int} (h : x ∈ k ∨ x = -1) : -1 ≤ num k x ∧ num k x < k.length := by
  unfold num
  split
  · omega
  · rename_i e
    have : x ∈ k := h.elim id fun z => absurd z e
    have := List.idxOf_lt_length_iff.mpr this
    omega
theorem nam_ok {one other : Rule} (R1 : RuleOk one) (R2 : RuleOk other) {A : Sta × Sta} (h : PairOk one other A) : PairOk one other (nam A) := by
  have P := num_apart (k := kn A) (-1)
  have hl := kn_len R1 R2 h
  have key : ∀ (r : Rule) (s : Sta), StaOk r s → (∀ x ∈ s.1, x ∈ A.1.1 ++ A.2.1) → StaOk r (ren (num (kn A)) s) := fun r s S hs => by
    have sk : ∀ x ∈ s.1, x ∈ kn A ∨ x = -1 := fun x hx => by
      by_cases e : x = -1
      · exact .inr e
      · exact .inl (known_mem.mpr ⟨hs x hx, e⟩)
    have se : ∀ x ∈ s.1, Seen (kn A) (-1) x := fun x hx => (sk x hx).elim (fun z => .inr (.inl z)) .inl
    refine ⟨by show (s.1.map _).length = _; rw [List.length_map]; exact S.len, S.lab, fun y hy => ?_, ?_⟩
    · obtain ⟨x, hx, rfl⟩ := List.mem_map.mp hy
      have := num_lt (sk x hx)
      omega
    · show ((s.1.map (num (kn A))).filter (fun x => decide (x ≠ -1))).Nodup
      rw [List.filter_map]
      have e : s.1.filter ((fun x => decide (x ≠ -1)) ∘ num (kn A)) = s.1.filter (fun x => decide (x ≠ -1)) := by
        apply List.filter_congr
        intro x hx
        have := P.bl x (se x hx)
        show decide (num (kn A) x ≠ -1) = decide (x ≠ -1)
        by_cases q : x = -1
        · rw [decide_eq_false (by simp [this.mpr q]), decide_eq_false (by simp [q])]
        · rw [decide_eq_true (show num (kn A) x ≠ -1 from fun z => q (this.mp z)), decide_eq_true (show x ≠ -1 from q)]
      rw [e]
      have nd := S.nd
      refine List.pairwise_map.mpr ?_
      refine nd.imp_of_mem fun {x y} hx hy ne e => ?_
      exact ne (P.inj x y (se x (List.mem_filter.mp hx).1) (se y (List.mem_filter.mp hy).1) e)
  exact ⟨key one A.1 h.a fun x hx => List.mem_append_left _ hx, key other A.2 h.b fun x hx => List.mem_append_right _ hx⟩

/-! ### the greatest number -/
theorem top_ge : ∀ (xs : List Int) (m : Int), m ≤ xs.foldl (fun m x => if m < x then x else m) m ∧ ∀ x ∈ xs, x ≤ xs.foldl (fun m x => if m < x then x else m) m
  | [], m => ⟨Int.le_refl _, by simp⟩
  | x :: xs, m => by
    have h := top_ge xs (if m < x then x else m)
    rw [List.foldl_cons]
    have e : m ≤ (if m < x then x else m) ∧ x ≤ (if m < x then x else m) := by split <;> omega
    refine ⟨by omega, fun y hy => ?_⟩
    rcases List.mem_cons.mp hy with z | z
    · rw [z]; omega
    · exact h.2 y z
/-- the codes of a row and those behind it: the greatest is one less than their number -/
theorem most_is {A : Sta × Sta} {m : Int} (hm : m ∈ (nam A).1.1 ++ (nam A).2.1) (hle : ∀ y ∈ (nam A).1.1 ++ (nam A).2.1, y ≤ m) : m + 1 = many A := by
  have e : (nam A).1.1 ++ (nam A).2.1 = (A.1.1 ++ A.2.1).map (num (kn A)) := (List.map_append).symm
  rw [e] at hm hle
  unfold many
  obtain ⟨x, hx, rfl⟩ := List.mem_map.mp hm
  have sk : ∀ x ∈ A.1.1 ++ A.2.1, x ∈ kn A ∨ x = -1 := fun x hx => by
    by_cases e : x = -1
    · exact .inr e
    · exact .inl (known_mem.mpr ⟨hx, e⟩)
  have h1 := num_lt (sk x hx)
  by_cases z : (kn A).length = 0
  · omega
  · have hl : (kn A).length - 1 < (kn A).length := by omega
    have hy := List.getElem_mem hl
    have hy2 := known_mem.mp hy
    have h2 := hle _ (List.mem_map.mpr ⟨_, hy2.1, rfl⟩)
    have h3 : num (kn A) (kn A)[(kn A).length - 1] = (((kn A).length - 1 : Nat) : Int) := by
      unfold num
      rw [if_neg hy2.2]
      have := (known_nodup (A.1.1 ++ A.2.1)).idxOf_getElem ((kn A).length - 1) hl
      exact congrArg Int.ofNat this
    omega

/-! ### walks -/
/-- the numbers of a walk from the arrangement A on are move numbers -/
def OkW (one other : Rule) : Sta × Sta → List Int → Prop
  | _, [] => True
  | A, n :: w => 0 ≤ n ∧ n ≤ many A ∧ OkW one other (mv one other A n) w
def endW (one other : Rule) (A : Sta × Sta) (w : List Int) : Sta × Sta := w.foldl (mv one other) A
def hitsW (one other : Rule) : Sta × Sta → List Int → List (Bool × Bool)
  | _, [] => []
  | A, n :: w => (hit one A.1 n, hit other A.2 n) :: hitsW one other (mv one other A n) w
def runP (one other : Rule) (A : Sta × Sta) (ts : List Int) : Sta × Sta := ts.foldl (ask one other) A
def run (r : Rule) (s : Sta) (ts : List Int) : Sta := ts.foldl (nxt r) s
def hits (r : Rule) : Sta → List Int → List Bool
  | _, [] => []
  | s, t :: ts => hit r s t :: hits r (nxt r s t) ts
theorem runP_run (one other : Rule) : ∀ (ts : List Int) (A : Sta × Sta), runP one other A ts = (run one A.1 ts, run other A.2 ts)
  | [], _ => rfl
  | _ :: ts, A => runP_run one other ts (ask one other A _)
def nums (one other : Rule) : Sta × Sta → List Int → List Int
  | _, [] => []
  | A, t :: ts => num (kn A) t :: nums one other (ask one other A t) ts
def Things (ts : List Int) : Prop := ∀ t ∈ ts, 0 ≤ t ∧ t ≤ 99
theorem many_nam {A : Sta × Sta} : many (nam A) = many A := by
  unfold many kn
  have e : (nam A).1.1 ++ (nam A).2.1 = (A.1.1 ++ A.2.1).map (num (kn A)) := (List.map_append).symm
  have P := num_apart (k := kn A) (-1)
  rw [e, known_map P fun x hx => ?_, List.length_map]
  by_cases q : x = -1
  · exact .inl q
  · exact .inr (.inl (known_mem.mpr ⟨hx, q⟩))
theorem sim {one other : Rule} (R1 : RuleOk one) (R2 : RuleOk other) : ∀ (ts : List Int) (A : Sta × Sta), PairOk one other A → Things ts →
    OkW one other (nam A) (nums one other A ts) ∧ endW one other (nam A) (nums one other A ts) = nam (runP one other A ts) ∧
    (hitsW one other (nam A) (nums one other A ts)).map Prod.fst = hits one A.1 ts ∧ (hitsW one other (nam A) (nums one other A ts)).map Prod.snd = hits other A.2 ts
  | [], _, _, _ => ⟨trivial, rfl, rfl, rfl⟩
  | t :: ts, A, h, ht => by
    have t0 := ht t List.mem_cons_self
    have m := mv_named R1 R2 h.a h.b t
    have ih := sim R1 R2 ts (ask one other A t) (ask_ok R1 R2 h t0) fun u hu => ht u (List.mem_cons_of_mem _ hu)
    have hn : 0 ≤ num (kn A) t ∧ num (kn A) t ≤ many A := by
      unfold num many
      rw [if_neg (by omega)]
      have := List.idxOf_le_length (a := t) (l := kn A)
      omega
    refine ⟨⟨hn.1, by rw [many_nam]; exact hn.2, ?_⟩, ?_, ?_, ?_⟩
    · rw [m.2.2]
      exact ih.1
    · show endW one other (mv one other (nam A) (num (kn A) t)) (nums one other (ask one other A t) ts) = _
      rw [m.2.2]
      exact ih.2.1
    · show hit one (nam A).1 (num (kn A) t) :: (hitsW one other (mv one other (nam A) (num (kn A) t)) _).map Prod.fst = hit one A.1 t :: _
      rw [m.2.2, m.1]
      exact congrArg _ ih.2.2.1
    · show hit other (nam A).2 (num (kn A) t) :: (hitsW one other (mv one other (nam A) (num (kn A) t)) _).map Prod.snd = hit other A.2 t :: _
      rw [m.2.2, m.2.1]
      exact congrArg _ ih.2.2.2

/-! ### a walk played -/
def thingOf (A : Sta × Sta) (used : Int) (n : Int) : Int := if n < many A then (kn A).getD n.toNat 0 else used
def play (one other : Rule) : Sta × Sta → Int → List Int → List Int
  | _, _, [] => []
  | A, used, n :: w => thingOf A used n :: play one other (ask one other A (thingOf A used n)) (max used (thingOf A used n + 1)) w
/-- all things of the rows lie below used -/
def Below (A : Sta × Sta) (used : Int) : Prop := ∀ x ∈ A.1.1 ++ A.2.1, x < used
theorem idx_out {l : List Int} {x : Int} (h : x ∉ l) : l.idxOf x = l.length := by
  have h1 := List.idxOf_le_length (a := x) (l := l)
  have h2 : ¬ l.idxOf x < l.length := fun z => h (List.idxOf_lt_length_iff.mp z)
  omega
theorem thing_ok {A : Sta × Sta} {used n : Int} (B : Below A used) (hu : 0 ≤ used) (h0 : 0 ≤ n) (hn : n ≤ many A) (hlo : ∀ x ∈ A.1.1 ++ A.2.1, -1 ≤ x) :
    num (kn A) (thingOf A used n) = n ∧ 0 ≤ thingOf A used n ∧ thingOf A used n ≤ used := by
  unfold thingOf
  by_cases h : n < many A
  · rw [if_pos h]
    have hl : n.toNat < (kn A).length := by unfold many at h; omega
    rw [List.getD, List.getElem?_eq_getElem hl]
    show num (kn A) (kn A)[n.toNat] = n ∧ 0 ≤ (kn A)[n.toNat] ∧ (kn A)[n.toNat] ≤ used
    have hm := known_mem.mp (List.getElem_mem hl)
    refine ⟨?_, ?_, ?_⟩
    · unfold num
      rw [if_neg hm.2]
      have := (known_nodup (A.1.1 ++ A.2.1)).idxOf_getElem n.toNat hl
      have : (((kn A).idxOf (kn A)[n.toNat] : Nat) : Int) = (n.toNat : Int) := congrArg Int.ofNat this
      omega
    · have := hlo _ hm.1
      have := hm.2
      omega
    · have := B _ hm.1
      omega
  · rw [if_neg h]
    have hmem : used ∉ kn A := fun z => by
      have := B _ (known_mem.mp z).1
      omega
    refine ⟨?_, hu, Int.le_refl _⟩
    unfold num
    rw [if_neg (by omega), idx_out hmem]
    unfold many at h hn
    omega
theorem nxt_below {r : Rule} (R : RuleOk r) {s : Sta} (S : StaOk r s) {t u : Int} (h : ∀ x ∈ s.1, x < u) (ht : t < u) : ∀ x ∈ (nxt r s t).1, x < u := fun x hx => by
  have := nxt_seen R S (k := s.1) (t := t) (fun x hx => .inr hx) x hx
  rcases this with z | z | z
  · have h1 := S.len
    have h2 := R.p1
    cases e : s.1 with
    | nil => rw [e] at h1; simp at h1; omega
    | cons y l =>
      have := h y (by rw [e]; exact List.mem_cons_self)
      have := (S.rng y (by rw [e]; exact List.mem_cons_self)).1
      omega
  · exact h x z
  · rw [z]; exact ht
theorem play_ok {one other : Rule} (R1 : RuleOk one) (R2 : RuleOk other) : ∀ (w : List Int) (A : Sta × Sta) (used : Int), PairOk one other A → Below A used → 0 ≤ used → used + w.length ≤ 99 → OkW one other (nam A) w →
    nums one other A (play one other A used w) = w ∧ Things (play one other A used w)
  | [], _, _, _, _, _, _, _ => ⟨rfl, by intro t ht; cases ht⟩
  | n :: w, A, used, h, B, hu, hl, hw => by
    obtain ⟨w1, w2, w3⟩ := hw
    rw [many_nam] at w2
    have hlo : ∀ x ∈ A.1.1 ++ A.2.1, -1 ≤ x := fun x hx => (List.mem_append.mp hx).elim (fun z => (h.a.rng x z).1) fun z => (h.b.rng x z).1
    have T := thing_ok B hu w1 w2 hlo
    rw [List.length_cons] at hl
    have t99 : 0 ≤ thingOf A used n ∧ thingOf A used n ≤ 99 := ⟨T.2.1, by omega⟩
    have m := (mv_named R1 R2 h.a h.b (thingOf A used n)).2.2
    rw [T.1] at m
    rw [m] at w3
    have B2 : Below (ask one other A (thingOf A used n)) (max used (thingOf A used n + 1)) := fun x hx => by
      rcases List.mem_append.mp hx with z | z
      · exact nxt_below R1 h.a (fun y hy => Int.lt_of_lt_of_le (B y (List.mem_append_left _ hy)) (Int.le_max_left _ _)) (by omega) x z
      · exact nxt_below R2 h.b (fun y hy => Int.lt_of_lt_of_le (B y (List.mem_append_right _ hy)) (Int.le_max_left _ _)) (by omega) x z
    have ih := play_ok R1 R2 w _ (max used (thingOf A used n + 1)) (ask_ok R1 R2 h t99) B2 (by omega) (by omega) w3
    refine ⟨?_, fun t ht => ?_⟩
    · show num (kn A) (thingOf A used n) :: nums one other (ask one other A (thingOf A used n)) _ = n :: w
      rw [T.1, ih.1]
    · rcases List.mem_cons.mp ht with z | z
      · rw [z]; exact t99
      · exact ih.2 t z
end G28
/-! ### the weakest readings -/
namespace G28
open PySem PySem.Spec PyProof.Rows L2

def wE (X : Cx) (e : Expr) : TE := fun σ H Q => ∀ (pins : List (Addr × Obj)) (s : Shared), Inv X pins σ H s → wpAny (model X.prog X.w) X.A (eval e X.env) (EP X pins σ Q) X.xe s
def wT (X : Cx) (e : Expr) : TT := fun σ H Q => ∀ (pins : List (Addr × Obj)) (s : Shared), Inv X pins σ H s → wpAny (model X.prog X.w) X.A (isTrue e X.env (eval e X.env)) (TP X pins σ Q) X.xe s
def wA (X : Cx) (es : List Expr) : TA := fun σ H Q => ∀ (pos : Pos) (pins : List (Addr × Obj)) (s : Shared), Inv X pins σ H s → wpAny (model X.prog X.w) X.A (spliced (backTo pos (starEach es X.env))) (AP X pins σ Q) X.xe s
def wS (X : Cx) (st : Stmt) : TS := fun D σ H => ∀ (pins : List (Addr × Obj)) (s : Shared), Inv X pins σ H s → wpAny (model X.prog X.w) X.A (exec st X.env) (SP X pins D) X.xe s
def wB (X : Cx) (sts : List Stmt) : TS := fun D σ H => ∀ (pins : List (Addr × Obj)) (s : Shared), Inv X pins σ H s → wpAny (model X.prog X.w) X.A (execs sts X.env) (SP X pins D) X.xe s
section
variable {X : Cx} {e : Expr} {es : List Expr} {st : Stmt} {sts : List Stmt} {σ : L2.St} {H : Hp}
theorem wE_pe : PE X e (wE X e) := ⟨fun pins s _ _ _ I h => h pins s I⟩
theorem wT_pt : PT X e (wT X e) := ⟨fun pins s _ _ _ I h => h pins s I⟩
theorem wA_pa : PA X es (wA X es) := ⟨fun pos pins s _ _ _ I h => h pos pins s I⟩
theorem wS_ps : PS X st (wS X st) := ⟨fun pins s _ _ _ I h => h pins s I⟩
theorem wB_ps : PSs X sts (wB X sts) := ⟨fun pins s _ _ _ I h => h pins s I⟩
theorem wE_of {t : TE} (h : PE X e t) {Q : VK} (q : t σ H Q) : wE X e σ H Q := fun pins s I => h.run pins s σ H Q I q
theorem wT_of {t : TT} (h : PT X e t) {Q : Bool → Hp → Prop} (q : t σ H Q) : wT X e σ H Q := fun pins s I => h.run pins s σ H Q I q
theorem wA_of {t : TA} (h : PA X es t) {Q : List V → Hp → Prop} (q : t σ H Q) : wA X es σ H Q := fun pos pins s I => h.run pos pins s σ H Q I q
theorem wS_of {t : TS} (h : PS X st t) {D : Ends} (q : t D σ H) : wS X st D σ H := fun pins s I => h.run pins s σ H D I q
theorem wB_of {t : TS} (h : PSs X sts t) {D : Ends} (q : t D σ H) : wB X sts D σ H := fun pins s I => h.run pins s σ H D I q
theorem wE_mono {Q Q' : VK} (h : wE X e σ H Q) (m : ∀ v H', Q v H' → Q' v H') : wE X e σ H Q' := fun pins s I => thn (h pins s I) fun _ _ ⟨v, H', J, r, q⟩ => ⟨v, H', J, r, m v H' q⟩
theorem wT_mono {Q Q' : Bool → Hp → Prop} (h : wT X e σ H Q) (m : ∀ v H', Q v H' → Q' v H') : wT X e σ H Q' := fun pins s I => thn (h pins s I) fun _ _ ⟨H', J, q⟩ => ⟨H', J, m _ H' q⟩
theorem wA_mono {Q Q' : List V → Hp → Prop} (h : wA X es σ H Q) (m : ∀ v H', Q v H' → Q' v H') : wA X es σ H Q' := fun pos pins s I => thn (h pos pins s I) fun _ _ ⟨v, H', J, r, q⟩ => ⟨v, H', J, r, m v H' q⟩
/-- what one set of ends asks the other gives -/
structure Sub (D D' : Ends) : Prop where
  nx : ∀ σ H, D.nx σ H → D'.nx σ H
  rt : ∀ v H, D.rt v H → D'.rt v H
  bk : ∀ σ H, D.bk σ H → D'.bk σ H
  ct : ∀ σ H, D.ct σ H → D'.ct σ H
theorem SP_mono {D D' : Ends} (m : Sub D D') {pins : List (Addr × Obj)} {f : Flow} {s : Shared} (h : SP X pins D f s) : SP X pins D' f s := by
  cases f with
  | next => obtain ⟨a, b, c, d⟩ := h; exact ⟨a, b, c, m.nx _ _ d⟩
  | brk => obtain ⟨a, b, c, d⟩ := h; exact ⟨a, b, c, m.bk _ _ d⟩
  | cont => obtain ⟨a, b, c, d⟩ := h; exact ⟨a, b, c, m.ct _ _ d⟩
  | ret u => obtain ⟨v, a, b, c, r, d⟩ := h; exact ⟨v, a, b, c, r, m.rt _ _ d⟩
theorem wS_mono {D D' : Ends} (h : wS X st D σ H) (m : Sub D D') : wS X st D' σ H := fun pins s I => thn (h pins s I) fun _ _ q => SP_mono m q
theorem wB_mono {D D' : Ends} (h : wB X sts D σ H) (m : Sub D D') : wB X sts D' σ H := fun pins s I => thn (h pins s I) fun _ _ q => SP_mono m q
theorem Sub.nx' {D : Ends} {N N' : L2.St → Hp → Prop} (h : ∀ σ H, N σ H → N' σ H) : Sub { D with nx := N } { D with nx := N' } := ⟨h, fun _ _ q => q, fun _ _ q => q, fun _ _ q => q⟩
/-- a block: its first statement, the rest -/
theorem b_cons {D : Ends} (h : wS X st { D with nx := wB X sts D } σ H) : wB X (st :: sts) D σ H := wB_of (pss_cons wS_ps wB_ps) h
theorem b_nil {D : Ends} (h : D.nx σ H) : wB X [] D σ H := wB_of pss_nil h
theorem b_one {D : Ends} (h : wS X st D σ H) : wB X [st] D σ H := wB_of (pss_one wS_ps) h
end

/-! ### heaps: what may change lies in M; the table of code objects that closures are made by -/
class Tb where
  P : Addr
  nm : Nat → Nat → Str
variable [Tb]
abbrev TabOk (H : Hp) : Prop := NdefX.TabN H Tb.P Tb.nm
structure Kp (M : List Addr) (H H' : Hp) : Prop where
  keep : ∀ b o, H b = some o → b ∉ M → (∀ ps, o ≠ .tbl ps) → H' b = some o
  tup : ∀ b xs, H b = some (.tup xs) → H' b = some (.tup xs)
  frz : ∀ b o u, H b = some (.frz o u) → H' b = some (.frz o u)
  back : ∀ b, H' b = none → H b = none
  tabs : TabOk H → TabOk H'
theorem Kp.of_ex {M : List Addr} {H H' : Hp} (e : ∀ b o, H b = some o → H' b = some o) : Kp M H H' :=
  ⟨fun b o h _ _ => e b o h, fun b xs h => e b _ h, fun b o u h => e b _ h, fun b h => (by
    cases q : H b with
    | none => rfl
    | some o =>
      rw [e b o q] at h
      cases h), fun t => t.ext e⟩
theorem Kp.refl {M : List Addr} (H : Hp) : Kp M H H := .of_ex fun _ _ h => h
theorem Kp.trans {M : List Addr} {H H1 H2 : Hp} (a : Kp M H H1) (b : Kp M H1 H2) : Kp M H H2 :=
  ⟨fun c o h n t => b.keep c o (a.keep c o h n t) n t, fun c xs h => b.tup c xs (a.tup c xs h), fun c o u h => b.frz c o u (a.frz c o u h), fun c h => a.back c (b.back c h), fun t => b.tabs (a.tabs t)⟩
theorem Kp.mono {M M' : List Addr} {H H' : Hp} (a : Kp M H H') (h : ∀ b ∈ M, b ∈ M') : Kp M' H H' := ⟨fun b o e n t => a.keep b o e (fun z => n (h b z)) t, a.tup, a.frz, a.back, a.tabs⟩
theorem Kp.to {M : List Addr} {H H' : Hp} (a : Kp [] H H') : Kp M H H' := a.mono fun b z => absurd z (by simp)
theorem Kp.new {M : List Addr} {H : Hp} {p : Addr} {o : HO} (h : H p = none) : Kp M H (upd H p o) := .of_ex fun b u e => by
  rw [upd_ne (ne_of_none e h)]
  exact e
/-- an object of ours that is a list or a dict is written -/
def Wr : HO → Prop
  | .lst _ => True
  | .dK _ => True
  | _ => False
theorem Kp.wr {M : List Addr} {H : Hp} {p : Addr} {u o : HO} (h : H p = some u) (hu : Wr u) (hm : p ∈ M) : Kp M H (upd H p o) := by
  have ne : ∀ {b : Addr} {v : HO}, H b = some v → ¬ Wr v → b ≠ p := fun {b v} e n z => by
    rw [z, h] at e
    rw [Option.some.inj e] at hu
    exact n hu
  refine ⟨fun b v e n _ => ?_, fun b xs e => ?_, fun b v x e => ?_, fun b e => ?_, fun t => ?_⟩
  · rw [upd_ne (fun z => n (by rw [z]; exact hm))]
    exact e
  · rw [upd_ne (ne e fun z => z)]
    exact e
  · rw [upd_ne (ne e fun z => z)]
    exact e
  · unfold upd at e
    split at e
    · cases e
    · exact e
  · obtain ⟨ps, h1, h2, h3⟩ := t
    refine ⟨ps, by rw [upd_ne (ne h1 fun z => z)]; exact h1, h2, fun pos cv hc => ?_⟩
    obtain ⟨c, e1, e2⟩ := h3 pos cv hc
    exact ⟨c, e1, by rw [upd_ne (ne e2 fun z => z)]; exact e2⟩
/-- what was not yet there at the start may be forgotten -/
theorem Kp.close {M : List Addr} {H0 H H' : Hp} {p : Addr} (a : Kp M H0 H) (b : Kp (p :: M) H H') (h : H0 p = none) : Kp M H0 H' :=
  ⟨fun c o e n t => b.keep c o (a.keep c o e n t) (fun z => by
    rcases List.mem_cons.mp z with z | z
    · rw [z, h] at e
      cases e
    · exact n z) t, fun c xs e => b.tup c xs (a.tup c xs e), fun c o u e => b.frz c o u (a.frz c o u e), fun c e => a.back c (b.back c e), fun t => b.tabs (a.tabs t)⟩
theorem Kp.close0 {M : List Addr} {H H' : Hp} {p : Addr} (b : Kp (p :: M) H H') (h : H p = none) : Kp M H H' := (Kp.refl H).close b h
theorem Kp.t {M : List Addr} {K : PySem.W.Frag} {H H' : Hp} (k : Kp M H H') {a : Addr} {xs : List V} (h : SqT K H a xs) : SqT K H' a xs := by
  rcases h with (h | ⟨o, h⟩) | h
  · exact .inl (.inl (k.tup _ _ h))
  · exact .inl (.inr ⟨o, k.frz _ _ _ h⟩)
  · exact .inr h
theorem Kp.l {M : List Addr} {H H' : Hp} (k : Kp M H H') {a : Addr} {xs : List V} (h : H a = some (.lst xs)) (n : a ∉ M := by simp) : H' a = some (.lst xs) := k.keep a _ h n fun _ z => by cases z

/-! ### data that stands in a heap: tuples of tuples; a row is a tuple of ints whose object is known -/
inductive Da where
  | none | bool (b : Bool) | int (i : Int) | tuple (ds : List Da) | row (ns : List Int)
mutual
def Da.py : Da → PyData
  | .none => .none
  | .bool b => .bool b
  | .int i => .int i
  | .tuple ds => .tuple (Da.pys ds)
  | .row ns => .tuple (ns.map PyData.int)
def Da.pys : List Da → List PyData
  | [] => []
  | d :: ds => d.py :: Da.pys ds
end
mutual
inductive Rp (K : PySem.W.Frag) (H : Hp) : V → Da → Prop
  | non : Rp K H .non .none
  | bl (b : Bool) : Rp K H (.bl b) (.bool b)
  | int (i : Int) : Rp K H (.int i) (.int i)
  | tup {a : Addr} {xs : List V} {ds : List Da} : SqT K H a xs → RpA K H xs ds → Rp K H (.ref a) (.tuple ds)
  | row {a : Addr} {o : Obj} {ns : List Int} : H a = some (.frz o (.tup (ns.map V.int))) → o.dict = none → Rp K H (.ref a) (.row ns)
inductive RpA (K : PySem.W.Frag) (H : Hp) : List V → List Da → Prop
  | nil : RpA K H [] []
  | cons {v : V} {vs : List V} {d : Da} {ds : List Da} : Rp K H v d → RpA K H vs ds → RpA K H (v :: vs) (d :: ds)
end
section
variable {K : PySem.W.Frag} {H H' : Hp}
mutual
theorem Rp.mo (t : ∀ a xs, SqT K H a xs → SqT K H' a xs) (f : ∀ a o u, H a = some (.frz o u) → H' a = some (.frz o u)) : ∀ {v : V} {d : Da}, Rp K H v d → Rp K H' v d
  | _, _, .non => .non
  | _, _, .bl b => .bl b
  | _, _, .int i => .int i
  | _, _, .tup h r => .tup (t _ _ h) (RpA.mo t f r)
  | _, _, .row h n => .row (f _ _ _ h) n
theorem RpA.mo (t : ∀ a xs, SqT K H a xs → SqT K H' a xs) (f : ∀ a o u, H a = some (.frz o u) → H' a = some (.frz o u)) : ∀ {vs : List V} {ds : List Da}, RpA K H vs ds → RpA K H' vs ds
  | _, _, .nil => .nil
  | _, _, .cons h r => .cons (Rp.mo t f h) (RpA.mo t f r)
end
theorem Kp.r {M : List Addr} (k : Kp M H H') {v : V} {d : Da} (h : Rp K H v d) : Rp K H' v d := h.mo (fun _ _ q => k.t q) k.frz
theorem Kp.ra {M : List Addr} (k : Kp M H H') {vs : List V} {ds : List Da} (h : RpA K H vs ds) : RpA K H' vs ds := h.mo (fun _ _ q => k.t q) k.frz
theorem dps_ints : ∀ ns : List Int, DpAll K H (ns.map V.int) (ns.map PyData.int)
  | [] => .nil
  | n :: ns => .cons (.int n) (dps_ints ns)
mutual
theorem Rp.dp : ∀ {v : V} {d : Da}, Rp K H v d → Dp K H v d.py
  | _, _, .non => .non
  | _, _, .bl b => .bl b
  | _, _, .int i => .int i
  | _, _, .tup h r => .tup h (RpA.dp r)
  | _, _, .row h _ => .tup (.inl (.inr ⟨_, h⟩)) (dps_ints _)
theorem RpA.dp : ∀ {vs : List V} {ds : List Da}, RpA K H vs ds → DpAll K H vs (Da.pys ds)
  | _, _, .nil => .nil
  | _, _, .cons h r => .cons (Rp.dp h) (RpA.dp r)
end
theorem RpA.len : ∀ {vs : List V} {ds : List Da}, RpA K H vs ds → vs.length = ds.length
  | _, _, .nil => rfl
  | _, _, .cons _ r => congrArg (· + 1) r.len
theorem RpA.at : ∀ {vs : List V} {ds : List Da}, RpA K H vs ds → ∀ {i : Nat} {d : Da}, ds[i]? = some d → ∃ v, vs[i]? = some v ∧ Rp K H v d
  | _, _, .nil, _, _, h => by simp at h
  | _, _, .cons h _, 0, _, e => ⟨_, rfl, by rw [← Option.some.inj e]; exact h⟩
  | _, _, .cons _ r, _ + 1, _, e => r.at (by simpa using e)
theorem RpA.at' : ∀ {vs : List V} {ds : List Da}, RpA K H vs ds → ∀ {i : Nat} {v : V}, vs[i]? = some v → ∃ d, ds[i]? = some d ∧ Rp K H v d
  | _, _, .nil, _, _, h => by simp at h
  | _, _, .cons h _, 0, _, e => ⟨_, rfl, by rw [← Option.some.inj e]; exact h⟩
  | _, _, .cons _ r, _ + 1, _, e => r.at' (by simpa using e)
theorem RpA.app : ∀ {vs : List V} {ds : List Da}, RpA K H vs ds → ∀ {us : List V} {es : List Da}, RpA K H us es → RpA K H (vs ++ us) (ds ++ es)
  | _, _, .nil, _, _, r => r
  | _, _, .cons h q, _, _, r => .cons h (q.app r)
theorem RpA.snoc {vs : List V} {ds : List Da} (r : RpA K H vs ds) {v : V} {d : Da} (h : Rp K H v d) : RpA K H (vs ++ [v]) (ds ++ [d]) := r.app (.cons h .nil)
theorem RpA.take : ∀ {vs : List V} {ds : List Da}, RpA K H vs ds → ∀ n, RpA K H (vs.take n) (ds.take n)
  | _, _, r, 0 => .nil
  | _, _, .nil, _ + 1 => .nil
  | _, _, .cons h r, n + 1 => .cons h (r.take n)
theorem RpA.drop : ∀ {vs : List V} {ds : List Da}, RpA K H vs ds → ∀ n, RpA K H (vs.drop n) (ds.drop n)
  | _, _, r, 0 => r
  | _, _, .nil, _ + 1 => .nil
  | _, _, .cons h r, n + 1 => r.drop n
abbrev dI (ns : List Int) : List Da := ns.map Da.int
theorem RpA.ints : ∀ {vs : List V} {ns : List Int}, RpA K H vs (dI ns) → vs = ns.map V.int
  | _, [], .nil => rfl
  | _, _ :: _, .cons (.int i) r => by rw [List.map_cons, ← r.ints]
theorem RpA.of_ints : ∀ ns : List Int, RpA K H (ns.map V.int) (dI ns)
  | [] => .nil
  | n :: ns => .cons (.int n) (RpA.of_ints ns)
theorem RpA.bls : ∀ {vs : List V} {bs : List Bool}, RpA K H vs (bs.map Da.bool) → vs = bs.map V.bl
  | _, [], .nil => rfl
  | _, _ :: _, .cons (.bl i) r => by rw [List.map_cons, ← r.bls]
theorem Rp.t {v : V} {ds : List Da} (r : Rp K H v (.tuple ds)) : ∃ a xs, v = .ref a ∧ SqT K H a xs ∧ RpA K H xs ds := by
  cases r with
  | tup h q => exact ⟨_, _, rfl, h, q⟩
theorem Rp.w {v : V} {ns : List Int} (r : Rp K H v (.row ns)) : ∃ a o, v = .ref a ∧ H a = some (.frz o (.tup (ns.map V.int))) ∧ o.dict = none := by
  cases r with
  | row h n => exact ⟨_, _, rfl, h, n⟩
/-- a row is a tuple of ints -/
theorem Rp.rt {v : V} {ns : List Int} (r : Rp K H v (.row ns)) : Rp K H v (.tuple (dI ns)) := by
  obtain ⟨a, o, rfl, h, _⟩ := r.w
  exact .tup (.inl (.inr ⟨o, h⟩)) (RpA.of_ints ns)
theorem Rp.i {v : V} {i : Int} (r : Rp K H v (.int i)) : v = .int i := by
  cases r
  rfl
theorem Rp.b {v : V} {b : Bool} (r : Rp K H v (.bool b)) : v = .bl b := by
  cases r
  rfl
theorem Rp.n {v : V} (r : Rp K H v .none) : v = .non := by
  cases r
  rfl
/-- a list object of these data -/
def RL (K : PySem.W.Frag) (H : Hp) (p : Addr) (ds : List Da) : Prop := ∃ xs, H p = some (.lst xs) ∧ RpA K H xs ds
theorem Kp.rl {M : List Addr} (k : Kp M H H') {p : Addr} {ds : List Da} (h : RL K H p ds) (n : p ∉ M := by simp) : RL K H' p ds := by
  obtain ⟨xs, h1, h2⟩ := h
  exact ⟨xs, k.l h1 n, k.ra h2⟩
end
end G28
namespace G28
open PySem PySem.Spec PyProof.Rows L2
variable [Tb]
/-! ### what an expression is worth, from H on -/
def De (X : Cx) (e : Expr) (σ : L2.St) (H : Hp) (R : V → Hp → Prop) : Prop := ∀ H1, Kp [] H H1 → wE X e σ H1 fun v H2 => Kp [] H1 H2 ∧ R v H2
abbrev DD (X : Cx) (e : Expr) (σ : L2.St) (H : Hp) (d : Da) : Prop := De X e σ H fun v H2 => Rp X.K H2 v d
/-- a list that was not there -/
abbrev DL (X : Cx) (e : Expr) (σ : L2.St) (H : Hp) (ds : List Da) : Prop := De X e σ H fun v H2 => ∃ p, v = .ref p ∧ H p = none ∧ RL X.K H2 p ds
def Dt (X : Cx) (e : Expr) (σ : L2.St) (H : Hp) (b : Bool) : Prop := ∀ H1, Kp [] H H1 → wT X e σ H1 fun c H2 => Kp [] H1 H2 ∧ c = b
def DA (X : Cx) (es : List Expr) (σ : L2.St) (H : Hp) (R : List V → Hp → Prop) : Prop := ∀ H1, Kp [] H H1 → wA X es σ H1 fun vs H2 => Kp [] H1 H2 ∧ R vs H2
abbrev DAs (X : Cx) (es : List Expr) (σ : L2.St) (H : Hp) (ds : List Da) : Prop := DA X es σ H fun vs H2 => RpA X.K H2 vs ds
section
variable {X : Cx} {e a b c : Expr} {es : List Expr} {σ : L2.St} {H H' : Hp} {pos p : Pos} {d d' : Da} {ds : List Da} {x : Str} {i j : Int}
theorem De.go {R : V → Hp → Prop} (h : De X e σ H R) {Q : VK} (q : ∀ v H1, Kp [] H H1 → R v H1 → Q v H1) : wE X e σ H Q := wE_mono (h H (Kp.refl H)) fun v H1 z => q v H1 z.1 z.2
theorem Dt.go {k : Bool} (h : Dt X e σ H k) {Q : Bool → Hp → Prop} (q : ∀ H1, Kp [] H H1 → Q k H1) : wT X e σ H Q := wT_mono (h H (Kp.refl H)) fun v H1 z => by
  rw [z.2]
  exact q H1 z.1
theorem DA.go {R : List V → Hp → Prop} (h : DA X es σ H R) {Q : List V → Hp → Prop} (q : ∀ vs H1, Kp [] H H1 → R vs H1 → Q vs H1) : wA X es σ H Q := wA_mono (h H (Kp.refl H)) fun v H1 z => q v H1 z.1 z.2
theorem De.up {R : V → Hp → Prop} (h : De X e σ H R) (k : Kp [] H H') : De X e σ H' R := fun H1 k1 => h H1 (k.trans k1)
theorem Dt.up {k : Bool} (h : Dt X e σ H k) (q : Kp [] H H') : Dt X e σ H' k := fun H1 k1 => h H1 (q.trans k1)
theorem De.im {R R' : V → Hp → Prop} (h : De X e σ H R) (m : ∀ v H2, Kp [] H H2 → R v H2 → R' v H2) : De X e σ H R' := fun H1 k1 => wE_mono (h H1 k1) fun v H2 z => ⟨z.1, m v H2 (k1.trans z.1) z.2⟩
theorem DD.is (h : DD X e σ H d) (q : d = d') : DD X e σ H d' := by
  rw [← q]
  exact h
theorem Dt.is {k k' : Bool} (h : Dt X e σ H k) (q : k = k') : Dt X e σ H k' := by
  rw [← q]
  exact h
/-- from a reading -/
theorem De.of {t : TE} {R : V → Hp → Prop} (pe : PE X e t) (h : ∀ H1, Kp [] H H1 → t σ H1 fun v H2 => Kp [] H1 H2 ∧ R v H2) : De X e σ H R := fun H1 k => wE_of pe (h H1 k)
theorem Dt.of {t : TT} {k : Bool} (pt : PT X e t) (h : ∀ H1, Kp [] H H1 → t σ H1 fun v H2 => Kp [] H1 H2 ∧ v = k) : Dt X e σ H k := fun H1 k => wT_of pt (h H1 k)

theorem dd_var (n : Nat) {v : V} (r : Rp X.K H v d) (h : σ[n]? = some (some v) := by rfl) (hN : X.N[n]? = some x := by rfl) (hv : Vis X.env.scope x := by first | exact Or.inl rfl | exact Or.inr (Or.inl rfl) | exact Or.inr (Or.inr rfl))
    (hd : (x == ("__debug__" : Str)) = false := by decide) (hcd : (x == ("__classdict__" : Str)) = false := by decide) : DD X (.Name x pos) σ H d := .of (pe_var hN hv hd hcd) fun H1 k => ⟨v, h, Kp.refl H1, k.r r⟩
/-- a name whose value stands, whatever it is -/
theorem de_var (n : Nat) {v : V} (h : σ[n]? = some (some v) := by rfl) (hN : X.N[n]? = some x := by rfl) (hv : Vis X.env.scope x := by first | exact Or.inl rfl | exact Or.inr (Or.inl rfl) | exact Or.inr (Or.inr rfl))
    (hd : (x == ("__debug__" : Str)) = false := by decide) (hcd : (x == ("__classdict__" : Str)) = false := by decide) : De X (.Name x pos) σ H fun w _ => w = v := .of (pe_var hN hv hd hcd) fun H1 k => ⟨v, h, Kp.refl H1, rfl⟩
theorem dd_int {k : Nat} : DD X (.Constant (.int i) k pos) σ H (.int i) := .of pe_int fun H1 _ => ⟨Kp.refl H1, .int i⟩
theorem dd_bl {y : Bool} {k : Nat} : DD X (.Constant (.bool y) k pos) σ H (.bool y) := .of pe_bl fun H1 _ => ⟨Kp.refl H1, .bl y⟩
theorem dd_non {k : Nat} : DD X (.Constant .none k pos) σ H .none := .of pe_non fun H1 _ => ⟨Kp.refl H1, .non⟩
theorem dd_glob (h : ∃ t, X.mg x = some (.int i t)) (hg : Gl X x := by rfl) (hd : (x == ("__debug__" : Str)) = false := by decide) : DD X (.Name x pos) σ H (.int i) := by
  obtain ⟨t, h⟩ := h
  exact .of (pe_glob hg h (v := .int i) ⟨t, rfl⟩ hd) fun H1 _ => ⟨Kp.refl H1, .int i⟩
theorem dd_neg (h : DD X e σ H (.int i)) : DD X (.UnaryOp .USub e pos) σ H (.int (-i)) := .of (pe_un un_neg wE_pe) fun H1 k => wE_mono (h H1 k) fun v H2 ⟨k2, r⟩ => ⟨i, r.i, k2, .int _⟩
/-- two operands -/
theorem De.two {R1 R2' : V → Hp → Prop} {r : R2} {R : V → Hp → Prop} (ha : De X a σ H R1) (hb : De X b σ H R2') (m : ∀ x y H1 H2 H3, Kp [] H H1 → R1 x H2 → Kp [] H1 H2 → Kp [] H2 H3 → R2' y H3 → r x y H3 fun v H4 => Kp [] H1 H4 ∧ R v H4) :
    ∀ H1, Kp [] H H1 → tOp r (wE X a) (wE X b) σ H1 fun v H2 => Kp [] H1 H2 ∧ R v H2 := fun H1 k =>
  wE_mono (ha H1 k) fun x H2 ⟨k2, r1⟩ => wE_mono (hb H2 (k.trans k2)) fun y H3 ⟨k3, r2⟩ => m x y H1 H2 H3 k r1 k2 k3 r2
theorem dd_opI {op : Operator} {g : Int → Int → Int} (ho : OpR X (binaryOp op) (rI0 fun i j => .int (g i j))) (ha : DD X a σ H (.int i)) (hb : DD X b σ H (.int j)) : DD X (.BinOp a op b pos) σ H (.int (g i j)) :=
  .of (pe_op ho wE_pe wE_pe) (De.two ha hb fun x y H1 H2 H3 _ r1 k2 k3 r2 => ⟨i, j, r1.i, r2.i, k2.trans k3, .int _⟩)
theorem dd_opC {op : Operator} {C : Int → Int → Prop} {g : Int → Int → Int} (ho : OpR X (binaryOp op) (rI C fun i j => .int (g i j))) (ha : DD X a σ H (.int i)) (hb : DD X b σ H (.int j)) (hc : C i j) : DD X (.BinOp a op b pos) σ H (.int (g i j)) :=
  .of (pe_op ho wE_pe wE_pe) (De.two ha hb fun x y H1 H2 H3 _ r1 k2 k3 r2 => ⟨i, j, r1.i, r2.i, hc, k2.trans k3, .int _⟩)
theorem dd_add (ha : DD X a σ H (.int i)) (hb : DD X b σ H (.int j)) : DD X (.BinOp a .Add b pos) σ H (.int (i + j)) := dd_opI op_add ha hb
theorem dd_sub (ha : DD X a σ H (.int i)) (hb : DD X b σ H (.int j)) : DD X (.BinOp a .Sub b pos) σ H (.int (i - j)) := dd_opI op_sub ha hb
theorem dd_mul (ha : DD X a σ H (.int i)) (hb : DD X b σ H (.int j)) (hc : CMul i j) : DD X (.BinOp a .Mult b pos) σ H (.int (i * j)) := dd_opC op_mul ha hb hc
theorem dd_mod (ha : DD X a σ H (.int i)) (hb : DD X b σ H (.int j)) (hc : 0 < j) : DD X (.BinOp a .Mod b pos) σ H (.int (i % j)) := dd_opC op_mod ha hb hc
theorem dd_fdiv (ha : DD X a σ H (.int i)) (hb : DD X b σ H (.int j)) (hc : CDiv i j) : DD X (.BinOp a .FloorDiv b pos) σ H (.int (i / j)) := dd_opC op_fdiv ha hb hc
theorem dd_pow (ha : DD X a σ H (.int i)) (hb : DD X b σ H (.int j)) (hc : CPow i j) : DD X (.BinOp a .Pow b pos) σ H (.int (i ^ j.toNat)) := dd_opC op_pow ha hb hc
/-- comparisons of ints -/
theorem dd_cmp {op : CmpOp} {g : Int → Int → Bool} (ho : OpR X (compareOp op) (rI0 fun i j => .bl (g i j))) (ha : DD X a σ H (.int i)) (hb : DD X b σ H (.int j)) (hm : behindInMarks op b = false) : DD X (.Compare a [op] [b] pos) σ H (.bool (g i j)) :=
  .of (pe_cmpR ho wE_pe wE_pe hm) (De.two ha hb fun x y H1 H2 H3 _ r1 k2 k3 r2 => ⟨i, j, r1.i, r2.i, k2.trans k3, .bl _⟩)
theorem dt_cmp {op : CmpOp} {g : Int → Int → Bool} (ho : OpR X (compareOp op) (rI0 fun i j => .bl (g i j))) (ha : DD X a σ H (.int i)) (hb : DD X b σ H (.int j)) (hm : behindInMarks op b = false) : Dt X (.Compare a [op] [b] pos) σ H (g i j) :=
  .of (pt_cmpR ho wE_pe wE_pe hm) fun H1 k => wE_mono (ha H1 k) fun x H2 ⟨k2, r1⟩ => wE_mono (hb H2 (k.trans k2)) fun y H3 ⟨k3, r2⟩ => ⟨i, j, r1.i, r2.i, _, rfl, k2.trans k3, rfl⟩
theorem dt_lt (ha : DD X a σ H (.int i)) (hb : DD X b σ H (.int j)) : Dt X (.Compare a [.Lt] [b] pos) σ H (decide (i < j)) := dt_cmp op_lt ha hb (nomark _)
theorem dt_gt (ha : DD X a σ H (.int i)) (hb : DD X b σ H (.int j)) : Dt X (.Compare a [.Gt] [b] pos) σ H (decide (j < i)) := dt_cmp op_gt ha hb (nomark _)
/-- == and != of plain values -/
def Sc : V → V → Prop := fun x y => scal x y = true
theorem dd_eqS {R1 R2' : V → Hp → Prop} {k : Bool} (ha : De X a σ H R1) (hb : De X b σ H R2') (h : ∀ x y H2 H3, R1 x H2 → Kp [] H2 H3 → R2' y H3 → scal x y = true ∧ decide (x = y) = k) : DD X (.Compare a [.Eq] [b] pos) σ H (.bool k) :=
  .of (pe_cmpR op_eq wE_pe wE_pe (nomark _)) (De.two ha hb fun x y H1 H2 H3 _ r1 k2 k3 r2 => by
    obtain ⟨q1, q2⟩ := h x y H2 H3 r1 k3 r2
    exact ⟨q1, k2.trans k3, by rw [q2]; exact .bl k⟩)
theorem dt_eqS {R1 R2' : V → Hp → Prop} {k : Bool} (ha : De X a σ H R1) (hb : De X b σ H R2') (h : ∀ x y H2 H3, R1 x H2 → Kp [] H2 H3 → R2' y H3 → scal x y = true ∧ decide (x = y) = k) : Dt X (.Compare a [.Eq] [b] pos) σ H k :=
  .of (pt_cmpR op_eq wE_pe wE_pe (nomark _)) fun H1 q => wE_mono (ha H1 q) fun x H2 ⟨k2, r1⟩ => wE_mono (hb H2 (q.trans k2)) fun y H3 ⟨k3, r2⟩ => by
    obtain ⟨q1, q2⟩ := h x y H2 H3 r1 k3 r2
    exact ⟨q1, _, rfl, k2.trans k3, q2⟩
theorem dt_neS {R1 R2' : V → Hp → Prop} {k : Bool} (ha : De X a σ H R1) (hb : De X b σ H R2') (h : ∀ x y H2 H3, R1 x H2 → Kp [] H2 H3 → R2' y H3 → scal x y = true ∧ (!decide (x = y)) = k) : Dt X (.Compare a [.NotEq] [b] pos) σ H k :=
  .of (pt_cmpR op_ne wE_pe wE_pe (nomark _)) fun H1 q => wE_mono (ha H1 q) fun x H2 ⟨k2, r1⟩ => wE_mono (hb H2 (q.trans k2)) fun y H3 ⟨k3, r2⟩ => by
    obtain ⟨q1, q2⟩ := h x y H2 H3 r1 k3 r2
    exact ⟨q1, _, rfl, k2.trans k3, q2⟩
theorem int_eq {i j : Int} : decide (V.int i = V.int j) = decide (i = j) := by
  by_cases h : i = j
  · rw [decide_eq_true h, decide_eq_true (by rw [h])]
  · rw [decide_eq_false h, decide_eq_false (fun z => h (V.int.inj z))]
theorem dt_eq (ha : DD X a σ H (.int i)) (hb : DD X b σ H (.int j)) : Dt X (.Compare a [.Eq] [b] pos) σ H (decide (i = j)) := dt_eqS ha hb fun x y _ _ r1 _ r2 => by
  rw [r1.i, r2.i]
  exact ⟨rfl, int_eq⟩
theorem dd_eq (ha : DD X a σ H (.int i)) (hb : DD X b σ H (.int j)) : DD X (.Compare a [.Eq] [b] pos) σ H (.bool (decide (i = j))) := dd_eqS ha hb fun x y _ _ r1 _ r2 => by
  rw [r1.i, r2.i]
  exact ⟨rfl, int_eq⟩
theorem dt_ne (ha : DD X a σ H (.int i)) (hb : DD X b σ H (.int j)) : Dt X (.Compare a [.NotEq] [b] pos) σ H (!decide (i = j)) := dt_neS ha hb fun x y _ _ r1 _ r2 => by
  rw [r1.i, r2.i]
  exact ⟨rfl, by rw [int_eq]⟩
/-- low <= x <= high -/
theorem dd_within {k : Int} (ha : DD X a σ H (.int i)) (hb : DD X b σ H (.int j)) (hc : DD X c σ H (.int k)) (hm : lastMarks [.LtE, .LtE] [b, c] = false := by with_unfolding_all rfl) : DD X (.Compare a [.LtE, .LtE] [b, c] pos) σ H (.bool (decide (i ≤ j) && decide (j ≤ k))) :=
  .of (pe_chain op_le op_le wE_pe wE_pe wE_pe hm) fun H1 q => wE_mono (ha H1 q) fun x H2 ⟨k2, r1⟩ => wE_mono (hb H2 (q.trans k2)) fun y H3 ⟨k3, r2⟩ => ⟨i, j, r1.i, r2.i, _, rfl, by
    by_cases h : i ≤ j
    · rw [decide_eq_true h, if_pos rfl]
      exact wE_mono (hc H3 ((q.trans k2).trans k3)) fun z H4 ⟨k4, r3⟩ => ⟨j, k, r2.i, r3.i, (k2.trans k3).trans k4, by rw [Bool.true_and]; exact .bl _⟩
    · rw [decide_eq_false h, if_neg Bool.false_ne_true]
      exact ⟨k2.trans k3, by rw [Bool.false_and]; exact .bl _⟩⟩
theorem dt_within {k : Int} (ha : DD X a σ H (.int i)) (hb : DD X b σ H (.int j)) (hc : DD X c σ H (.int k)) (hm : lastMarks [.LtE, .LtE] [b, c] = false := by with_unfolding_all rfl) : Dt X (.Compare a [.LtE, .LtE] [b, c] pos) σ H (decide (i ≤ j) && decide (j ≤ k)) :=
  .of (pt_chain op_le op_le wE_pe wE_pe wE_pe hm) fun H1 q => wE_mono (ha H1 q) fun x H2 ⟨k2, r1⟩ => wE_mono (hb H2 (q.trans k2)) fun y H3 ⟨k3, r2⟩ => ⟨i, j, r1.i, r2.i, _, rfl, by
    by_cases h : i ≤ j
    · rw [decide_eq_true h, if_pos rfl]
      exact wE_mono (hc H3 ((q.trans k2).trans k3)) fun z H4 ⟨k4, r3⟩ => ⟨j, k, r2.i, r3.i, _, rfl, (k2.trans k3).trans k4, by rw [Bool.true_and]⟩
    · rw [decide_eq_false h, if_neg Bool.false_ne_true]
      exact ⟨_, rfl, k2.trans k3, by rw [Bool.false_and]⟩⟩

/-! ### and, or, not; if -/
theorem dd_one {op : BoolOp} (h : DD X a σ H d) : DD X (.BoolOp op [a] pos) σ H d := .of (pe_one wE_pe) fun H1 k => h H1 k
theorem dd_and {k l : Bool} {rest : List Expr} (ha : DD X a σ H (.bool k)) (hb : k = true → DD X (.BoolOp .And (b :: rest) pos) σ H (.bool l)) : DD X (.BoolOp .And (a :: b :: rest) pos) σ H (.bool (k && l)) :=
  .of (pe_and wE_pe wE_pe) fun H1 q => wE_mono (ha H1 q) fun x H2 ⟨k2, r1⟩ => ⟨k, r1.b, by
    cases k with
    | true =>
      rw [if_pos rfl]
      exact wE_mono (hb rfl H2 (q.trans k2)) fun y H3 ⟨k3, r2⟩ => ⟨k2.trans k3, by rw [Bool.true_and]; exact r2⟩
    | false =>
      rw [if_neg Bool.false_ne_true]
      exact ⟨k2, .bl false⟩⟩
theorem dd_not {k : Bool} (ha : DD X a σ H (.bool k)) : DD X (.UnaryOp .Not a pos) σ H (.bool (!k)) := .of (pe_not wE_pe) fun H1 q => wE_mono (ha H1 q) fun x H2 ⟨k2, r1⟩ => ⟨k, r1.b, k2, .bl _⟩
theorem dt_val {k : Bool} (h : DD X e σ H (.bool k)) (he : ∀ whole, isTrue e X.env whole = (do let v ← whole; standAt e.pos; holding [v] (truthy v)) := by intro _; rfl) : Dt X e σ H k :=
  .of (pt_val wE_pe he) fun H1 q => wE_mono (h H1 q) fun x H2 ⟨k2, r⟩ => ⟨k, r.b, k2, rfl⟩
theorem dt_not {k : Bool} (h : Dt X e σ H k) : Dt X (.UnaryOp .Not e pos) σ H (!k) := .of (pt_not wT_pt) fun H1 q => wT_mono (h H1 q) fun x H2 ⟨k2, r⟩ => ⟨k2, by rw [r]⟩
theorem dt_or {k l : Bool} (ha : Dt X a σ H k) (hb : k = false → Dt X b σ H l) : Dt X (.BoolOp .Or [a, b] pos) σ H (k || l) :=
  .of (PW.pt (pw_or wT_pt (pw_or1 wT_pt))) fun H1 q => wT_mono (ha H1 q) fun x H2 ⟨k2, r⟩ => by
    subst r
    cases x with
    | true =>
      rw [if_pos rfl]
      exact ⟨k2, rfl⟩
    | false =>
      rw [if_neg Bool.false_ne_true]
      exact wT_mono (hb rfl H2 (q.trans k2)) fun y H3 ⟨k3, r3⟩ => ⟨k2.trans k3, by rw [r3, Bool.false_or]⟩
theorem dt_and {k l : Bool} (ha : Dt X a σ H k) (hb : k = true → Dt X b σ H l) : Dt X (.BoolOp .And [a, b] pos) σ H (k && l) :=
  .of (PW.pt (pw_and wT_pt (pw_and1 wT_pt))) fun H1 q => wT_mono (ha H1 q) fun x H2 ⟨k2, r⟩ => by
    subst r
    cases x with
    | false =>
      rw [if_neg Bool.false_ne_true]
      exact ⟨k2, rfl⟩
    | true =>
      rw [if_pos rfl]
      exact wT_mono (hb rfl H2 (q.trans k2)) fun y H3 ⟨k3, r3⟩ => ⟨k2.trans k3, by rw [r3, Bool.true_and]⟩
theorem de_if {R : V → Hp → Prop} {k : Bool} (hc : Dt X c σ H k) (ha : k = true → De X a σ H R) (hb : k = false → De X b σ H R) : De X (.IfExp c a b pos) σ H R :=
  .of (pe_ifExp wT_pt wE_pe wE_pe) fun H1 q => wT_mono (hc H1 q) fun x H2 ⟨k2, r⟩ => by
    subst r
    cases x with
    | true =>
      rw [if_pos rfl]
      exact wE_mono (ha rfl H2 (q.trans k2)) fun y H3 ⟨k3, r3⟩ => ⟨k2.trans k3, r3⟩
    | false =>
      rw [if_neg Bool.false_ne_true]
      exact wE_mono (hb rfl H2 (q.trans k2)) fun y H3 ⟨k3, r3⟩ => ⟨k2.trans k3, r3⟩

/-! ### argument lists, displays, subscripts -/
theorem da_nil : DAs X [] σ H [] := fun H1 _ => wA_of pa_nil ⟨Kp.refl H1, .nil⟩
theorem da_cons (he : DD X e σ H d) (hr : DAs X es σ H ds) (hs : starEach (e :: es) X.env = (false, eval e X.env) :: starEach es X.env := by rfl) : DAs X (e :: es) σ H (d :: ds) := fun H1 k =>
  wA_of (pa_cons wE_pe wA_pa hs) (wE_mono (he H1 k) fun v H2 ⟨k2, r⟩ => wA_mono (hr H2 (k.trans k2)) fun vs H3 ⟨k3, rs⟩ => ⟨k2.trans k3, .cons (k3.r r) rs⟩)
theorem small {n : Nat} (h : n ≤ 100000 := by decide) : n ≤ sizeLine := Nat.le_trans h (by decide)
theorem dd_tup {k : Nat} (h : DAs X es σ H ds) (hl : ds.length ≤ 100000 := by decide) : DD X (.Tuple es k pos) σ H (.tuple ds) := .of (pe_tup wA_pa) fun H1 q => wA_mono (h H1 q) fun vs H2 ⟨k2, r⟩ =>
  ⟨by rw [r.len]; exact small hl, fun p hp => ⟨k2.trans (Kp.new hp), .tup (.inl (.inl upd_same)) ((Kp.new (M := []) hp).ra r)⟩⟩
theorem Kp.fresh {M : List Addr} {H H' : Hp} (k : Kp M H H') {p : Addr} (h : H' p = none) : H p = none := k.back p h
theorem dl_lst (h : DAs X es σ H ds) (hl : ds.length ≤ 100000 := by decide) : DL X (.List es pos) σ H ds := .of (pe_lst wA_pa) fun H1 q => wA_mono (h H1 q) fun vs H2 ⟨k2, r⟩ =>
  ⟨by rw [r.len]; exact small hl, fun p hp => ⟨k2.trans (Kp.new hp), p, rfl, q.fresh (k2.fresh hp), _, upd_same, (Kp.new (M := []) hp).ra r⟩⟩
theorem dd_ix {n : Nat} (ha : DD X a σ H (.tuple ds)) (hb : DD X b σ H (.int (n : Int))) (hd : ds[n]? = some d) (hs : PlainIx b := by intro _ _; rfl) : DD X (.Subscript a b pos) σ H d :=
  .of (pe_ix ix_tup wE_pe wE_pe hs) (De.two ha hb fun x y H1 H2 H3 _ r1 k2 k3 r2 => by
    obtain ⟨p, xs, rfl, hx, rs⟩ := r1.t
    obtain ⟨v, hv, rv⟩ := rs.at hd
    exact ⟨p, xs, (n : Int), v, rfl, r2.i, k3.t hx, atI_nat hv, k2.trans k3, k3.r rv⟩)
/-- an item of a list at an address that stands -/
theorem dd_ixL {p' : Addr} {n : Nat} (ha : De X a σ H fun v H2 => v = .ref p' ∧ RL X.K H2 p' ds) (hb : DD X b σ H (.int (n : Int))) (hd : ds[n]? = some d) (hs : PlainIx b := by intro _ _; rfl) : DD X (.Subscript a b pos) σ H d :=
  .of (pe_ix ix_list wE_pe wE_pe hs) (De.two ha hb fun x y H1 H2 H3 _ r1 k2 k3 r2 => by
    obtain ⟨rfl, xs, hx, rs⟩ := r1
    obtain ⟨v, hv, rv⟩ := rs.at hd
    exact ⟨p', xs, (n : Int), v, rfl, r2.i, .of (k3.l hx), atI_nat hv, k2.trans k3, k3.r rv⟩)
/-- a list that is kept by a name -/
theorem de_list (n : Nat) {p' : Addr} (r : RL X.K H p' ds) (h : σ[n]? = some (some (.ref p')) := by rfl) (hN : X.N[n]? = some x := by rfl) (hv : Vis X.env.scope x := by first | exact Or.inl rfl | exact Or.inr (Or.inl rfl) | exact Or.inr (Or.inr rfl))
    (hd : (x == ("__debug__" : Str)) = false := by decide) (hcd : (x == ("__classdict__" : Str)) = false := by decide) : De X (.Name x pos) σ H fun v H2 => v = .ref p' ∧ RL X.K H2 p' ds := .of (pe_var hN hv hd hcd) fun H1 k => ⟨_, h, Kp.refl H1, rfl, k.rl r⟩

/-! ### tuples: +, *, slices, len, in, == -/
theorem dd_cat {es' : List Da} (ha : DD X a σ H (.tuple ds)) (hb : DD X b σ H (.tuple es')) (hl : ds.length + es'.length ≤ 100000) : DD X (.BinOp a .Add b pos) σ H (.tuple (ds ++ es')) :=
  .of (pe_op op_catA wE_pe wE_pe) (De.two ha hb fun x y H1 H2 H3 _ r1 k2 k3 r2 => by
    obtain ⟨p, xs, rfl, hx, rs⟩ := r1.t
    obtain ⟨q, ys, rfl, hy, ss⟩ := r2.t
    have rs3 := k3.ra rs
    refine ⟨p, q, xs, ys, rfl, rfl, k3.t hx, hy, by rw [rs.len, ss.len]; exact small hl, fun e => ?_, fun e e2 => ?_, fun e e2 c hc => ⟨(k2.trans k3).trans (Kp.new hc), .tup (.inl (.inl upd_same)) ((Kp.new (M := []) hc).ra (rs3.app ss))⟩⟩
    · subst e
      cases rs
      exact ⟨k2.trans k3, .tup hy ss⟩
    · subst e2
      cases ss
      rw [List.append_nil]
      exact ⟨k2.trans k3, .tup (k3.t hx) rs3⟩)
theorem sIx_nat (n d k : Nat) (h : k ≤ n) : HT.sIx n d (some (k : Int)) = k := by
  rw [HT.sIx_nat]
  exact Nat.min_eq_left h
/-- t[:k] -/
theorem dd_to {n : Nat} {p2 : Pos} (ha : DD X a σ H (.tuple ds)) (hb : DD X b σ H (.int (n : Int))) : DD X (.Subscript a (.Slice none (some b) none p2) pos) σ H (.tuple (ds.take n)) :=
  .of (pe_slice sl_tupA wE_pe po_none (po_some wE_pe)) fun H1 k => wE_mono (ha H1 k) fun x H2 ⟨k2, r1⟩ => wE_mono (hb H2 (k.trans k2)) fun y H3 ⟨k3, r2⟩ => ⟨(n : Int), r2.i, by
    obtain ⟨p, xs, rfl, hx, rs⟩ := r1.t
    have e1 : HT.sIx xs.length xs.length (some (n : Int)) = min n xs.length := HT.sIx_nat _ _ _
    have e0 : HT.sIx xs.length 0 none = 0 := HT.sIx_none _ _
    have rs3 := k3.ra rs
    refine ⟨p, xs, rfl, k3.t hx, fun h => ⟨k2.trans k3, ?_⟩, fun _ c hc => ⟨(k2.trans k3).trans (Kp.new hc), ?_⟩⟩
    · rw [e1] at h
      have hn : ds.length ≤ n := by rw [← rs.len]; omega
      rw [List.take_of_length_le hn]
      exact .tup (k3.t hx) rs3
    · have e : cutV xs none (some (n : Int)) = xs.take n := by
        unfold cutV
        rw [e0, e1, Nat.sub_zero, List.drop_zero]
        by_cases h : n ≤ xs.length
        · rw [Nat.min_eq_left h]
        · rw [Nat.min_eq_right (by omega), List.take_of_length_le (Nat.le_refl _), List.take_of_length_le (by omega)]
      rw [e]
      exact .tup (.inl (.inl upd_same)) ((Kp.new (M := []) hc).ra (rs3.take n))⟩
/-- t[k:] -/
theorem dd_from {n : Nat} {p2 : Pos} (ha : DD X a σ H (.tuple ds)) (hb : DD X b σ H (.int (n : Int))) : DD X (.Subscript a (.Slice (some b) none none p2) pos) σ H (.tuple (ds.drop n)) :=
  .of (pe_slice sl_tupA wE_pe (po_some wE_pe) po_none) fun H1 k => wE_mono (ha H1 k) fun x H2 ⟨k2, r1⟩ => wE_mono (hb H2 (k.trans k2)) fun y H3 ⟨k3, r2⟩ => ⟨(n : Int), r2.i, by
    obtain ⟨p, xs, rfl, hx, rs⟩ := r1.t
    have e0 : HT.sIx xs.length 0 (some (n : Int)) = min n xs.length := HT.sIx_nat _ _ _
    have e1 : HT.sIx xs.length xs.length none = xs.length := HT.sIx_none _ _
    have rs3 := k3.ra rs
    refine ⟨p, xs, rfl, k3.t hx, fun h => ⟨k2.trans k3, ?_⟩, fun _ c hc => ⟨(k2.trans k3).trans (Kp.new hc), ?_⟩⟩
    · rw [e0, e1] at h
      have hn : ds.drop n = ds := by
        by_cases z : n = 0
        · rw [z, List.drop_zero]
        · have : ds.length = 0 := by rw [← rs.len]; omega
          rw [List.length_eq_zero_iff.mp this, List.drop_nil]
      rw [hn]
      exact .tup (k3.t hx) rs3
    · have e : cutV xs (some (n : Int)) none = xs.drop n := by
        unfold cutV
        rw [e0, e1]
        by_cases h : n ≤ xs.length
        · rw [Nat.min_eq_left h, List.take_of_length_le (by rw [List.length_drop]; omega)]
        · rw [Nat.min_eq_right (by omega), List.drop_eq_nil_of_le (Nat.le_refl _), List.drop_eq_nil_of_le (by omega), List.take_nil]
      rw [e]
      exact .tup (.inl (.inl upd_same)) ((Kp.new (M := []) hc).ra (rs3.drop n))⟩
theorem dd_len (ha : DD X a σ H (.tuple ds)) (hm : X.mg "len" = none) (hg : Gl X "len" := by rfl) (he : starEach [a] X.env = (false, eval a X.env) :: starEach [] X.env := by rfl) (hpl : (backTo pos (starEach [] X.env)).any (·.1) = false := by rfl) : DD X (.Call (.Name "len" p) [a] [] pos) σ H (.int (ds.length : Int)) :=
  .of (pe_callB call_len_seq hg hm PySem.boot_len (pa_cons wE_pe pa_nil he) (he := he) (hpl := hpl)) fun H1 k => wE_mono (ha H1 k) fun x H2 ⟨k2, r1⟩ => by
    obtain ⟨q, xs, rfl, hx, rs⟩ := r1.t
    exact ⟨q, xs, rfl, .inr hx, k2, by rw [rs.len]; exact .int _⟩
theorem dd_lenL {p' : Addr} (ha : De X a σ H fun v H2 => v = .ref p' ∧ RL X.K H2 p' ds) (hm : X.mg "len" = none) (hg : Gl X "len" := by rfl) (he : starEach [a] X.env = (false, eval a X.env) :: starEach [] X.env := by rfl) (hpl : (backTo pos (starEach [] X.env)).any (·.1) = false := by rfl) : DD X (.Call (.Name "len" p) [a] [] pos) σ H (.int (ds.length : Int)) :=
  .of (pe_callB call_len_seq hg hm PySem.boot_len (pa_cons wE_pe pa_nil he) (he := he) (hpl := hpl)) fun H1 k => wE_mono (ha H1 k) fun x H2 ⟨k2, r1⟩ => by
    obtain ⟨rfl, xs, hx, rs⟩ := r1
    exact ⟨p', xs, rfl, .inl (.of hx), k2, by rw [rs.len]; exact .int _⟩
end
end G28
namespace G28
open PySem PySem.Spec PyProof.Rows L2
variable [Tb]
/-! ### what the layer lacks of tuples -/
section
variable {X : Cx}
theorem tup_raw {pins : List (Addr × Obj)} {σ : L2.St} {H : Hp} {s : Shared} {p : Addr} {xs : List V} (I : Inv X pins σ H s) (h : SqT X.K H p xs) :
    ∃ (its : List Value) (dd : Option Addr) (n : Nat) (sl : Array (Option Value)), Vals xs its ∧ s.heap.get? p = some { cls := .type "tuple", dict := dd, data := .seq its.toArray n, slots := sl } ∧ s.heap.IsTuple p its.toArray ∧ xs.length ≤ sizeLine := by
  obtain ⟨its, rv, T, hz⟩ := I.tuple h
  obtain ⟨⟨cl, dd, dt, sl⟩, ho, hc, n, hd⟩ := id T
  simp only at hc hd
  subst hc hd
  exact ⟨its, dd, n, sl, rv, ho, T, hz⟩
theorem flat_ints (ns : List Int) : (ns.map V.int).all flatV = true := by
  rw [List.all_map]
  exact List.all_eq_true.mpr fun _ _ => rfl
/-- t.count(k) of ints -/
def rTCount (K : PySem.W.Frag) : V → List V → Hp → VK → Prop := fun x xs H Q => ∃ (p : Addr) (ns : List Int) (k : Int), x = .ref p ∧ xs = [.int k] ∧ SqT K H p (ns.map V.int) ∧ Q (.int (ns.count k : Nat)) H
theorem mt_tcount : MtR X "tuple.count" (rTCount X.K) := by
  intro pins s σ H x xs v us Q I rx rxs h
  obtain ⟨p, ns, k, rfl, rfl, hs, q⟩ := h
  cases rx
  obtain ⟨u, rfl, ru⟩ := rxs.one
  obtain ⟨t, rfl⟩ := ru
  obtain ⟨its, dd, n, sl, rv, ho, -, -⟩ := tup_raw I hs
  have hi := ints_of_vals rv
  refine call_meets PySem.F.slot_tuple_count ⟨_, ho, rfl⟩ PySem.F.entry_tuple_count (PySem.F.args_tuple_count_2 _ _) (SeqAt.tuple_countAt p its.toArray n dd sl (.int k t) (eqk k)) ⟨ho, fun y hy => (eqk_gives hi y (by simpa using hy)).at _ _, ?_⟩
  have ec : its.toArray.toList.countP (eqk k) = ns.count k := eqk_count hi
  rw [ec]
  exact ⟨.int (ns.count k : Nat), H, I.tok _, ⟨s.toks, rfl⟩, q⟩
/-- t.index(k) of ints, where k is there -/
def rTIndex (K : PySem.W.Frag) : V → List V → Hp → VK → Prop := fun x xs H Q => ∃ (p : Addr) (ns : List Int) (k : Int), x = .ref p ∧ xs = [.int k] ∧ SqT K H p (ns.map V.int) ∧ k ∈ ns ∧ Q (.int (ns.idxOf k : Nat)) H
theorem mt_tindex : MtR X "tuple.index" (rTIndex X.K) := by
  intro pins s σ H x xs v us Q I rx rxs h
  obtain ⟨p, ns, k, rfl, rfl, hs, hk, q⟩ := h
  cases rx
  obtain ⟨u, rfl, ru⟩ := rxs.one
  obtain ⟨t, rfl⟩ := ru
  obtain ⟨its, dd, n, sl, rv, ho, -, -⟩ := tup_raw I hs
  have hi := ints_of_vals rv
  have hlen : its.toArray.size = ns.length := by
    rw [List.size_toArray, ← rv.length, List.length_map]
  have hj : ns.idxOf k < its.toArray.size := by
    rw [hlen]
    exact List.idxOf_lt_length_iff.mpr hk
  have at' : ∀ (m : Nat) (hm : m < its.toArray.size), eqk k its.toArray[m] = (ns[m]'(by rw [← hlen]; exact hm) == k) := fun m hm => by
    have hm' : m < ns.length := by rw [← hlen]; exact hm
    obtain ⟨tm, e⟩ := hi.get m ns[m] (List.getElem?_eq_getElem hm')
    obtain ⟨h1, h2⟩ := List.getElem?_eq_some_iff.mp e
    have e1 : its.toArray[m] = .int ns[m] tm := by simpa using h2
    rw [e1] <;> rfl
  refine call_meets PySem.F.slot_tuple_index ⟨_, ho, rfl⟩ PySem.F.entry_tuple_index (PySem.F.args_tuple_index_2 _ _) (TI.tuple_indexAt p its.toArray n dd sl (.int k t) (eqk k) (ns.idxOf k) hj ?_ ?_)
    ⟨ho, fun y hy => (eqk_gives hi y (by simpa using hy)).at _ _, ⟨.int (ns.idxOf k : Nat), H, I.tok _, ⟨_, rfl⟩, q⟩⟩
  · rw [at' _ hj, List.getElem_idxOf]
    exact beq_self_eq_true k
  · intro m hm hmj
    rw [at' m hm]
    exact beq_eq_false_iff_ne.mpr fun e => by
      have hm' : m < ns.length := by rw [← hlen]; exact hm
      have h1 := List.not_of_lt_findIdx (p := fun x => x == k) (xs := ns) (i := m) hmj
      simp [e] at h1
/-- a row's type: its object bears no dict -/
def tyW (x : V) (H : Hp) : Prop := ∃ (a : Addr) (o : Obj) (ns : List Int), x = .ref a ∧ H a = some (.frz o (.tup (ns.map V.int))) ∧ o.dict = none
theorem ty_row : TyOk X "tuple" tyW := by
  intro pins σ H s x v I r ty
  obtain ⟨a, o, ns, rfl, h, hd⟩ := ty
  cases r
  obtain ⟨e, z, its, rv, o2, e2, hc, n, hdt⟩ := I.hok a _ h
  rw [e] at e2
  cases e2
  exact ⟨⟨o, e, hc⟩, fun b eb => by
    cases eb
    exact ⟨o, e, hd⟩⟩
/-- max of a tuple of ints: its greatest item -/
def rMaxT (K : PySem.W.Frag) : List V → Hp → VK → Prop := fun vs H Q => ∃ (p : Addr) (ns : List Int) (m : Int), vs = [V.ref p] ∧ SqT K H p (ns.map V.int) ∧ m ∈ ns ∧ (∀ y ∈ ns, y ≤ m) ∧ ns.length ≤ 1000 ∧ Q (.int m) H
theorem fold_max (n : Int) : ∀ (ns : List Int), ns.foldl max n ∈ n :: ns ∧ ∀ y ∈ n :: ns, y ≤ ns.foldl max n := by
  intro ns
  induction ns generalizing n with
  | nil => exact ⟨List.mem_cons_self, fun y hy => by rw [List.mem_singleton.mp hy]; exact Int.le_refl _⟩
  | cons k r ih =>
    rw [List.foldl_cons]
    have h := ih (max n k)
    have e1 : n ≤ max n k := Int.le_max_left _ _
    have e2 : k ≤ max n k := Int.le_max_right _ _
    have e3 := h.2 (max n k) List.mem_cons_self
    refine ⟨?_, fun y hy => ?_⟩
    · rcases List.mem_cons.mp h.1 with q | q
      · rw [q]
        by_cases z : n ≤ k
        · rw [Int.max_eq_right z]
          exact List.mem_cons_of_mem _ List.mem_cons_self
        · rw [Int.max_eq_left (by omega)]
          exact List.mem_cons_self
      · exact List.mem_cons_of_mem _ (List.mem_cons_of_mem _ q)
    · rcases List.mem_cons.mp hy with q | q
      · rw [q]; omega
      · rcases List.mem_cons.mp q with q | q
        · rw [q]; omega
        · exact h.2 y (List.mem_cons_of_mem _ q)
theorem alike_ints (ns : List Int) : PySem.W.AlikeAll (ns.map PyData.int) := by
  refine ⟨fun x hx y hy => ?_, fun x hx => ?_⟩
  · obtain ⟨i, _, rfl⟩ := List.mem_map.mp hx
    obtain ⟨j, _, rfl⟩ := List.mem_map.mp hy
    rfl
  · obtain ⟨i, _, rfl⟩ := List.mem_map.mp hx
    intro e
    cases e
theorem depth_ints : ∀ ns : List Int, PyData.depthAll (ns.map PyData.int) = 0
  | [] => rfl
  | n :: ns => by
    rw [List.map_cons, PyData.depthAll, depth_ints ns]
    rfl
theorem cr_maxT (hc : X.calm = true) (hu : X.A.units + 64 < cLine) : CallR X (.builtin "max") (rMaxT X.K) := by
  intro pins s σ H vs us Q I r h
  obtain ⟨p, ns, m, rfl, hs, hm, hle, hl, q⟩ := h
  rw [Vals.ref1 r]
  obtain ⟨its, dd, n, sl, rv, ho, T, hz⟩ := tup_raw I hs
  obtain ⟨as, rs⟩ := Dp.readsAll I (ns.map PyData.int) (ns.map V.int) its (dps_ints ns) rv
  cases ns with
  | nil => cases hm
  | cons k ks =>
    refine PySem.W.max_tuple_data (x := .int k) (xs := ks.map PyData.int) (I.ok.hd hc) T (by simpa using rs) (alike_ints (k :: ks)) (by have := depth_ints (k :: ks); rw [List.map_cons] at this; rw [this]; omega) fun i v h' tk bs hv hr hk => ?_
    rw [PySem.W.maxD_ints] at hr
    have F := fold_max k ks
    have e : ks.foldl max k = m := Int.le_antisymm (hle _ F.1) (F.2 m hm)
    rw [e] at hr
    cases hr
    exact ⟨.int m, H, I.kept hk, ⟨_, rfl⟩, q⟩
/-- sorted of a tuple of ints: the one list of them that rises -/
def rSortT (K : PySem.W.Frag) : List V → Hp → VK → Prop := fun vs H Q => ∃ (p : Addr) (ns ms : List Int), vs = [V.ref p] ∧ SqT K H p (ns.map V.int) ∧ ns.length < 64 ∧ ms.Perm ns ∧ ms.Pairwise (· ≤ ·) ∧ ∀ l, H l = none → Q (.ref l) (upd H l (.lst (ms.map V.int)))
theorem cr_sortT : CallR X (.builtin "sorted") (rSortT X.K) := by
  intro pins s σ H vs us Q I r h
  obtain ⟨p, ns, ms, rfl, hs, h64, hp, hsr, q⟩ := h
  rw [Vals.ref1 r]
  obtain ⟨its, dd, n, sl, rv, ho, T, hz⟩ := tup_raw I hs
  have hi := ints_of_vals rv
  have hil : its.length = ns.length := hi.length
  refine Calls.call_function_entry PyProof.Rows.kind_sorted PyProof.Rows.plain_sorted PyProof.Rows.entry_sorted (PyProof.Rows.args_sorted1 _) ?_
  unfold Builtin.«sorted»
  refine wpAny_bind (m := checkCount "sorted" 1 1 _) (wpAny_pure ?_)
  refine wpAny_bind (wpAny_collect_seq (hsz := by rw [List.size_toArray, hil]; exact Nat.le_trans (Nat.le_of_lt h64) (by decide)) p (.inr rfl) ho rfl rfl fun h' hk => ?_)
  have I1 : Inv X pins σ H { s with heap := h' } := I.kept (t' := s.toks) hk
  refine wpAny_bind (wpAny_newList ?_ (by simp only [List.toList_toArray]; rw [hil, sizeLine_eq]; omega))
  have hoL : (h'.push (seqObj "list" its.toArray.toList.toArray 0)).get? h'.objs.size = some (seqObj "list" its.toArray.toList.toArray 0) := Heap.get?_push_size _ rfl
  show wpAny _ _ _ _ _ { s with heap := h'.push (seqObj "list" its.toArray.toList.toArray 0) }
  refine wpAny_bind (wpAny_holding (wpAny_call_entry PyProof.Rows.slot_list_sort ⟨_, hoL, rfl⟩ PyProof.Rows.entry_list_sort
    (PyProof.Rows.list_sort_tree (s := { s with heap := h'.push (seqObj "list" its.toArray.toList.toArray 0) }) hoL (by simpa using hi) (by simpa [hil] using h64) fun out ys g1 g2 g3 => ⟨_, rfl, ?_⟩) (PyProof.Rows.args_list_sort _)))
  have ey : ys = ms := PySem.W.ksm_same (g2.trans hp.symm) g3 hsr
  subst ey
  obtain ⟨e', he'⟩ := PyProof.Rows.sortedHeap_at (vs := its.toArray.toList) (out := out) hoL
  have hlen : (ys.map V.int).length ≤ sizeLine := by
    rw [List.length_map, g2.length_eq]
    exact Nat.le_trans (Nat.le_of_lt h64) (by decide)
  have hf : H h'.objs.size = none := I1.hok.fresh (Nat.le_refl _)
  refine wpAny_pure ⟨_, rfl, .ref h'.objs.size, upd H h'.objs.size (.lst (ys.map V.int)), I1.laid (t' := s.toks) (fun b u e => ?_) (Nat.le_refl _) ⟨hlen, out.toList, e', vals_ints g1, by simpa using he'⟩, rfl, q _ hf⟩
  have hb : b < h'.objs.size := Heap.lt_size e
  rw [PyProof.Rows.sortedHeap_old (Nat.ne_of_lt hb) (by rw [Heap.size_push]; exact Nat.lt_succ_of_lt hb), Heap.get?_push_ne _ _ _ (Nat.ne_of_lt hb)]
  exact e
end
end G28
namespace G28
open PySem PySem.Spec PyProof.Rows L2
variable [Tb]
open AutoSeq1 (wpAny_loadPart')
/-! ### rows are made -/
theorem mul_once (l : Addr) (items : Array Value) (n : Nat) (dd : Option Addr) (sl : Array (Option Value)) (u : Tok) :
    Meets (Builtin.«tuple.__mul__» ⟨[.ref l, .int 1 u], []⟩) (fun _ R s => s.heap.get? l = some { cls := .type "tuple", dict := dd, data := .seq items n, slots := sl } ∧ R (.ok (.ret (Value.ref l))) s) :=
  .of_wp fun prog w A R s h => by
    obtain ⟨hp, g, d, tk, os⟩ := s
    obtain ⟨hl, h⟩ := h
    have f1 := AutoSeq1.idx_int
    wp_walk using wpAny_loadPart' hl
    exact ⟨_, rfl, h⟩
section
variable {X : Cx}
/-- an object that is just a tuple of these -/
abbrev tupO (us : List Value) : Obj := { cls := .type "tuple", data := .seq us.toArray }
theorem frz_ok {P : Program} {w : World} {H : Hp} {h : Heap} {a : Addr} {xs : List V} {us : List Value} (e : h.get? a = some (tupO us)) (r : Vals xs us) (z : xs.length ≤ sizeLine) : ObjOk P w H h a (.frz (tupO us) (.tup xs)) := ⟨e, z, us, r, ⟨_, e, rfl, _, rfl⟩⟩
/-- (v,) * n -/
def rRepW : R2 := fun x y H Q => ∃ (l : Addr) (k : Int) (o : Obj) (v : V), x = .ref l ∧ y = .int k ∧ H l = some (.frz o (.tup [v])) ∧ 1 ≤ k ∧ k ≤ 1000 ∧ (k = 1 → Q (.ref l) H) ∧ (2 ≤ k → ∀ p o', o'.dict = none → H p = none → Q (.ref p) (upd H p (.frz o' (.tup (List.replicate k.toNat v)))))
theorem rep_flat {α : Type} (v : α) : ∀ n : Nat, (List.replicate n [v]).flatten = List.replicate n v
  | 0 => rfl
  | n + 1 => by
    rw [List.replicate_succ, List.flatten_cons, rep_flat v n, List.replicate_succ]
    rfl
theorem op_repW : OpR X (binaryOp .Mult) rRepW := by
  intro pins s σ H x y v u Q I rx ry h
  obtain ⟨l, k, o, vv, rfl, rfl, hT, h1, h2, q1, q2⟩ := h
  cases rx
  obtain ⟨t, rfl⟩ := ry
  obtain ⟨its, dd, n, sl, rv, ho, T, hz⟩ := tup_raw I (.inl (.inr ⟨o, hT⟩))
  obtain ⟨w1, rfl, rw1⟩ := vals1 rv
  by_cases hk : k = 1
  · subst hk
    exact wpAny_binaryOp_repeat_ref (T := "tuple") (U := "int") (by decide) ⟨_, ho, rfl⟩ (fun s' => typeIs_int s' 1 t) noFill_tuple_mul F.fills_int_mul F.slot_int_rmul repeat_tuple F.slot_int_index.lookup
      (call_meets F.slot_int_rmul (typeIs_int s 1 t) F.entry_int_rmul (F.args_int_rmul_2 _ _) (int_rmul_tuple 1 t l [w1].toArray n dd sl)
        ⟨ho, rfl, ⟨_, ho, rfl⟩, call_meets F.slot_tuple_mul ⟨_, ho, rfl⟩ F.entry_tuple_mul (F.args_tuple_mul_2 _ _) (mul_once l [w1].toArray n dd sl t) ⟨ho, .ref l, H, I, rfl, q1 rfl⟩⟩)
  · have c0 : (decide (k < -(2 ^ 63)) || decide (k ≥ 2 ^ 63)) = false := by
      rw [decide_eq_false (by omega), decide_eq_false (by omega)] <;> rfl
    have c1 : (([w1].toArray).isEmpty || k == 1) = false := by
      rw [show ([w1].toArray).isEmpty = false from rfl, Bool.false_or]
      exact beq_eq_false_iff_ne.mpr hk
    have c2 : (decide (k ≤ 0) || ([w1].toArray).isEmpty) = false := by
      rw [show ([w1].toArray).isEmpty = false from rfl, Bool.or_false]
      exact decide_eq_false (by omega)
    have e1 : (((([w1].toArray).size : Nat)) : Int) * k = k := by
      rw [show ([w1].toArray).size = 1 from rfl]
      exact Int.one_mul k
    have c3 : ¬ (((([w1].toArray).size : Nat)) : Int) * k > (2 ^ 63 - 1) / 8 := by rw [e1]; omega
    have c4 : Builtin.Tuple.tupleTooMany ((((([w1].toArray).size : Nat)) : Int) * k) = false := by
      rw [e1]
      unfold Builtin.Tuple.tupleTooMany
      rw [sizeLine_eq]
      exact decide_eq_false (by omega)
    have fl : List.foldl (fun x1 x2 => x1 ++ x2) #[] (List.replicate k.toNat [w1].toArray) = (List.replicate k.toNat w1).toArray := by rw [size_rep, rep_flat]
    refine wpAny_binaryOp_repeat_ref (T := "tuple") (U := "int") (by decide) ⟨_, ho, rfl⟩ (fun s' => typeIs_int s' k t) noFill_tuple_mul F.fills_int_mul F.slot_int_rmul repeat_tuple F.slot_int_index.lookup
      (call_meets F.slot_int_rmul (typeIs_int s k t) F.entry_int_rmul (F.args_int_rmul_2 _ _) (int_rmul_tuple k t l [w1].toArray n dd sl)
        ⟨ho, rfl, ⟨_, ho, rfl⟩, call_meets F.slot_tuple_mul ⟨_, ho, rfl⟩ F.entry_tuple_mul (F.args_tuple_mul_2 _ _) (tuple_mulW l [w1].toArray n dd sl k t c0 c1 c2 c3 c4 (by rw [fl, List.size_toArray, List.length_replicate, sizeLine_eq]; omega)) ⟨ho, ?_⟩⟩)
    rw [fl]
    have rr : Vals (List.replicate k.toNat vv) (List.replicate k.toNat w1) := by
      have := (show Vals [vv] [w1] from .cons rw1 .nil).rep k.toNat
      rw [rep_flat, rep_flat] at this
      exact this
    refine ⟨.ref s.heap.objs.size, _, I.laid (t' := s.toks) (o := .frz (tupO (List.replicate k.toNat w1)) (.tup (List.replicate k.toNat vv))) (fun b ob q => Heap.get?_push_of_some _ q) (Nat.le_refl _) ?_, rfl, q2 (by omega) _ _ rfl (I.hok.fresh (Nat.le_refl _))⟩
    exact frz_ok (Heap.get?_push_size _ rfl) rr (by rw [List.length_replicate, sizeLine_eq]; omega)
/-- (e, ..) as an object that is known -/
def tTupF (t : TA) : TE := fun σ H Q => t σ H fun xs H1 => xs.length ≤ sizeLine ∧ ∀ p o, o.dict = none → H1 p = none → Q (.ref p) (upd H1 p (.frz o (.tup xs)))
theorem pe_tupF {es : List Expr} {t : TA} {k : Nat} {pos : Pos} (h : PA X es t) : PE X (.Tuple es k pos) (tTupF t) := by
  refine ⟨fun pins s σ H Q I hq => ?_⟩
  refine wpAny_Tuple_spliced (thn (h.run pos pins s σ H _ I hq) fun us s1 ⟨xs, H1, I1, r, z, q⟩ => ⟨by rw [← r.length]; exact z, ?_⟩)
  exact ⟨.ref s1.heap.objs.size, _, I1.laid (t' := s1.toks) (o := .frz (tupO us) (.tup xs)) (fun b u e => Heap.get?_push_of_some _ e) (Nat.le_refl _) (frz_ok (Heap.get?_push_size _ rfl) r z), rfl, q _ _ rfl (I1.hok.fresh (Nat.le_refl _))⟩
/-- tuple(l) of a list of ints -/
def kRow (K : PySem.W.Frag) (x : V) (H : Hp) (Q : VK) : Prop := ∃ (p : Addr) (ns : List Int), x = .ref p ∧ SqL K H p (ns.map V.int) ∧ ∀ q o, o.dict = none → H q = none → Q (.ref q) (upd H q (.frz o (.tup (ns.map V.int))))
theorem pe_rowOf {a : Expr} {ta : TE} {p pos : Pos} (hg : Gl X "tuple") (hm : X.mg "tuple" = none) (ha : PE X a ta) (na : starEach [a] X.env = (false, eval a X.env) :: starEach [] X.env := by rfl) : PE X (.Call (.Name "tuple" p) [a] [] pos) (tThen ta (kRow X.K)) := by
  refine ⟨fun pins s σ H Q I h => ?_⟩
  refine Call_ (ld_blt I hg hm boot_tuple (PyProof.Rows.callWith_type1 (one_arg ha I h (fun v s2 x H2 I2 r q => ?_) na) na))
  obtain ⟨l, ns, rfl, hs, q⟩ := q
  obtain rfl : v = .ref l := r
  obtain ⟨its, rv, pl, hz⟩ := I2.list hs
  refine call_tuple_list pl.isList (fun h' hk => ?_) (by rw [List.size_toArray, ← rv.length]; exact hz)
  have I3 : Inv X pins σ H2 { s2 with heap := h' } := I2.kept (t' := s2.toks) hk
  exact ⟨.ref h'.objs.size, _, I3.laid (t' := s2.toks) (o := .frz (tupO its) (.tup (ns.map V.int))) (fun b o e => Heap.get?_push_of_some _ e) (Nat.le_refl _) (frz_ok (Heap.get?_push_size _ rfl) rv hz), rfl, q _ _ rfl (I3.hok.fresh (Nat.le_refl _))⟩
end
end G28
namespace G28
open PySem PySem.Spec PyProof.Rows L2
variable [Tb]
open AutoSeq1 (wpAny_loadPart')
/-! ### for i, x in enumerate(t), t a tuple -/
theorem enum_new {v : Value} {o : Obj} {G : Heap → Prop} (B : Begins v o G) :
    Meets (Builtin.«enumerate.__new__» ⟨[.type "enumerate", v], []⟩) (fun _ R s => G s.heap ∧
      R (.ok (.ret (.ref (s.heap.push o).objs.size))) { s with heap := (s.heap.push o).push { cls := .type "enumerate", data := .fields #[.none, .bool false, .ref s.heap.objs.size, rawInt 0, .none, .none] } }) :=
  .of_wp fun prog w A R s h => by
    obtain ⟨hp, g, d, tk, os⟩ := s
    obtain ⟨h1, h⟩ := h
    have hs := sub_enumerate
    have it : ∀ {A' : Around} {E : Value → Shared → Prop} {Q : Value → Shared → Prop}, Q (.ref hp.objs.size) ⟨hp.push o, g, d, tk, os⟩ → wpAny (model prog w) A' (pyIter v) Q E ⟨hp, g, d, tk, os⟩ := fun q => B.iter prog w _ _ ⟨hp, g, d, tk, os⟩ _ h1 q
    wp_walk using it
    refine wpAny_stack_any fun st => wpAny_pure ?_
    split
    · rename_i c _ _ _ _ _
      cases (c == Value.type "enumerate") <;> (wp_walk using it; exact ⟨_, rfl, h⟩)
    · wp_walk using it
      exact ⟨_, rfl, h⟩
theorem enum_call {prog : Program} {w : World} {A : Around} {E : Value → Shared → Prop} {s : Shared} {t : Addr} {items : Array Value} {Q : Value → Shared → Prop} (hT : s.heap.IsTuple t items)
    (h : ∀ h', IsEnum h' (s.heap.objs.size + 1) s.heap.objs.size 0 .none → h'.IsTupleIter s.heap.objs.size t 0 → (∀ b o, s.heap.get? b = some o → h'.get? b = some o) → Q (.ref (s.heap.objs.size + 1)) { s with heap := h' }) :
    wpAny (model prog w) A (call (.type "enumerate") [.ref t]) Q E s := by
  refine callType_new F.called_enumerate (by decide) (F.typeCall_enumerate_1 _) (F.newCall_enumerate_1 _) (fun obj => F.args_object_init_2 obj _) F.entry_enumerate_new (enum_new (begins_tuple t items)) ⟨hT, ?_⟩
  have hz : (s.heap.push ({ cls := .type "tuple_iterator", data := .fields #[.ref t, .int 0 0] } : Obj)).objs.size = s.heap.objs.size + 1 := Heap.size_push ..
  show _ ∧ _
  rw [hz]
  have e1 := Heap.get?_push_size (s.heap.push ({ cls := .type "tuple_iterator", data := .fields #[.ref t, .int 0 0] } : Obj)) (o := { cls := .type "enumerate", data := .fields #[.none, .bool false, .ref s.heap.objs.size, rawInt 0, .none, .none] }) rfl
  rw [hz] at e1
  exact ⟨⟨_, e1, rfl⟩, h _ e1 ⟨_, Heap.get?_push_of_some _ (Heap.get?_push_size _ rfl), rfl, rfl⟩ fun b o x => Heap.get?_push_of_some _ (Heap.get?_push_of_some _ x)⟩
/-- the tuple at a, its items in new pairs -/
def IteT (K : PySem.W.Frag) (a : Addr) : It :=
  ⟨fun i H => ∃ (xs : List V) (x : V), SqT K H a xs ∧ xs[i]? = some x, fun i H v H' => ∃ (T : Addr) (x : V), v = .ref T ∧ H T = none ∧ H' = upd H T (.tup [.int (i : Nat), x]) ∧ ∀ xs, SqT K H a xs → xs[i]? = some x, fun i H => ∃ xs : List V, SqT K H a xs ∧ xs.length = i⟩
theorem turn_enumT {P : Program} {w : World} {K : PySem.W.Frag} {elts : List Expr} {kk : Nat} {tpos : Pos} (a e it : Addr) :
    Turn P w K (.Tuple elts kk tpos) (IteT K a) [e, it] e (fun i h => (∃ old, IsEnum h e it ((i : Nat) : Int) old) ∧ h.IsTupleIter it a i ∧ e ≠ it) where
  mem := by simp
  obj := fun i h st b hb => by
    obtain ⟨⟨old, he⟩, ⟨o, ho, hc, hd⟩, _⟩ := st
    rcases (by simpa using hb : b = e ∨ b = it) with z | z
    · rw [z]
      exact ⟨_, he, fun v q => nomatch q⟩
    · rw [z]
      exact ⟨o, ho, fun v q => by rw [hd] at q; cases q⟩
  keep := fun i h h' st k => let ⟨⟨old, he⟩, hi, ne⟩ := st; ⟨⟨old, k e (by simp) _ he⟩, hi.at fun o q => k it (by simp) o q, ne⟩
  item := by
    intro X hP hw hK hc i pins s σ H E I hf st hg
    subst hP hw hK
    obtain ⟨⟨old, he⟩, hit, ne⟩ := st
    obtain ⟨xs, x, hq, hx⟩ := hg
    obtain ⟨its, rv, T, hz⟩ := I.tuple hq
    obtain ⟨u, hu, ru⟩ := rv.get hx
    have hel : e < s.heap.objs.size := Heap.lt_size he
    have hil : it < s.heap.objs.size := by obtain ⟨_, q, _⟩ := hit; exact Heap.lt_size q
    have hai : a ≠ it := fun z => by
      obtain ⟨o1, h1, c1, _⟩ := hit
      obtain ⟨o2, h2, c2, _⟩ := T
      rw [z, h1] at h2
      cases h2
      rw [c1] at c2
      have c3 : ("tuple_iterator" : String) = "tuple" := Value.type.inj c2
      exact absurd c3 (by decide)
    have hae : a ≠ e := fun z => by
      obtain ⟨o2, h2, c2, _⟩ := T
      have he' : s.heap.get? e = some _ := he
      rw [z, he'] at h2
      cases h2
      have c3 : ("enumerate" : String) = "tuple" := Value.type.inj c2
      exact absurd c3 (by decide)
    have hiu : its.toArray[i]? = some u := by simpa using hu
    have hlt : i < its.toArray.size := (Array.getElem?_eq_some_iff.mp hiu).1
    refine wpAny_pyNext_enum_itemD (Draws.tuple (A := X.A.in1) (I.ok.hd hc) it a hai its.toArray) he ⟨hit, T⟩ hlt ne (by simp; exact ⟨ne, Ne.symm hae⟩) fun x' h' tk hP ho hs' hT hsz hk => ?_
    have ex : x' = u := Option.some.inj (hP.symm.trans hiu)
    subst ex
    refine ⟨_, rfl, wpAny_letOwnedTupleGo_enum (s := { s with heap := h', toks := tk + 1 }) ho fun h'' he' sb => ?_⟩
    have hT2 : h''.get? s.heap.objs.size = some { cls := .type "tuple", data := .seq #[.int i tk, x'] } := (sb.2 _ (Nat.ne_of_gt hel)).trans hT
    have new : ObjOk X.prog X.w (upd H s.heap.objs.size (.tup [.int (i : Nat), x])) h'' s.heap.objs.size (.tup [.int (i : Nat), x]) :=
      ⟨by show 2 ≤ sizeLine; decide, [.int i tk, x'], .cons ⟨_, rfl⟩ (.cons ru .nil), ⟨_, hT2, rfl, _, rfl⟩⟩
    have I1 : Inv X pins σ (upd H s.heap.objs.size (.tup [.int (i : Nat), x])) { s with heap := h'', toks := tk + 1 } :=
      I.turnedNew (ch := [e, it]) (fun b ob hb q => (sb.2 b (fun z => hb (by simp [z]))).trans (hk b ob (fun z => hb (by simp [z])) (fun z => hb (by simp [z])) q)) hf (Nat.le_refl _) new
    refine ⟨.ref s.heap.objs.size, _, I1, rfl, ⟨_, x, rfl, I.hok.fresh (Nat.le_refl _), rfl, fun ys hy => by rw [I.tuple_inj hy hq]; exact hx⟩, ⟨⟨x', ?_⟩, hs'.1.at fun o q => (sb.2 it (Ne.symm ne)).trans q, ne⟩, fun b hb => ?_⟩
    · have e1 : ((i + 1 : Nat) : Int) = (i : Int) + 1 := by omega
      rw [e1]
      exact he'
    · have hb' : b < s.heap.objs.size := by
        rcases (by simpa using hb : b = e ∨ b = it) with z | z
        · rw [z]; exact hel
        · rw [z]; exact hil
      rw [upd_ne (Nat.ne_of_lt hb')]
      exact (hf b hb).1
  done := by
    intro X hP hw hK hc i pins s σ H E I hf st hg
    subst hP hw hK
    obtain ⟨⟨old, he⟩, hit, ne⟩ := st
    obtain ⟨xs, hq, hx⟩ := hg
    obtain ⟨its, rv, T, hz⟩ := I.tuple hq
    obtain ⟨f0, f1, f2, f3, f4, f5⟩ := hf it (by simp)
    have hai : a ≠ it := fun z => by
      obtain ⟨o1, h1, c1, _⟩ := hit
      obtain ⟨o2, h2, c2, _⟩ := T
      rw [z, h1] at h2
      cases h2
      rw [c1] at c2
      have c3 : ("tuple_iterator" : String) = "tuple" := Value.type.inj c2
      exact absurd c3 (by decide)
    have hn : its.toArray.size = i := by rw [List.size_toArray, ← rv.length, hx]
    exact wpAny_pyNext_enum_endD (Draws.tuple (A := X.A.in1) (I.ok.hd hc) it a hai its.toArray) he ⟨by rw [hn]; exact hit, T⟩ fun h' eb => ⟨rfl, I.turned (t' := s.toks) (fun b o hb q => eb b o hb q) f0 f1 f3 f4 f5⟩
  self := fun A i s Q E st h => let ⟨⟨_, he⟩, _⟩ := st; wpAny_pyIter_enum he h
def iEnumT (K : PySem.W.Frag) (ta : TA) : TI := fun σ H R => ta σ H fun vs H1 => ∃ (a : Addr) (xs : List V), vs = [.ref a] ∧ SqT K H1 a xs ∧ R (IteT K a) H1
theorem pi_enumT {X : Cx} {e : Expr} {ta : TA} {p pos tpos : Pos} {elts : List Expr} {kk : Nat} (hg : Gl X "enumerate") (hm : X.mg "enumerate" = none) (ha : PA X [e] ta) (hs : starEach [e] X.env = [(false, eval e X.env)] := by rfl) :
    PI X (.Tuple elts kk tpos) (.Call (.Name "enumerate" p) [e] [] pos) (iEnumT X.K ta) := by
  refine ⟨fun pins s σ H R I h => ?_⟩
  refine Call_ (ld_blt I hg hm boot_enumerate (PyProof.Rows.callWith_type1 (thn (ha.run pos pins s σ H _ I h) fun us s1 ⟨vs, H1, I1, r1, q1⟩ => ?_) hs rfl))
  obtain ⟨a, xs, rfl, hq, q⟩ := q1
  rw [Vals.ref1 r1]
  obtain ⟨its, rv, T, hz⟩ := I1.tuple hq
  refine enum_call T fun h' he hit hk => wpAny_pyIter_enum he ?_
  have I2 : Inv X pins σ H1 { s1 with heap := h' } := I1.kept (t' := s1.toks) hk
  refine ⟨s1.heap.objs.size + 1, [s1.heap.objs.size + 1, s1.heap.objs.size], _, _, H1, rfl, I2, turn_enumT a (s1.heap.objs.size + 1) s1.heap.objs.size, ⟨⟨.none, he⟩, hit, Nat.succ_ne_self _⟩, fun b hb => ?_, q⟩
  have hle : s1.heap.objs.size ≤ b := by
    rcases (by simpa using hb : b = s1.heap.objs.size + 1 ∨ b = s1.heap.objs.size) with z | z
    · rw [z]
      exact Nat.le_add_right _ _
    · rw [z]
      exact Nat.le_refl _
  exact I1.fpOk hle (I1.hok.fresh hle)
end G28
namespace G28
open PySem PySem.Spec PyProof.Rows L2
variable [Tb]
/-! ### equality of data -/
theorem can_ints : ∀ ns : List Int, PyData.canLayAll0 (ns.map PyData.int) = true
  | [] => rfl
  | n :: ns => by
    rw [List.map_cons, PyData.canLayAll0, can_ints ns, Bool.and_true]
    rfl
mutual
theorem can : ∀ d : Da, d.py.canLay0 = true
  | .none => rfl
  | .bool _ => rfl
  | .int _ => rfl
  | .tuple ds => by
    show (PyData.tuple (Da.pys ds)).canLay0 = true
    rw [PyData.canLay0]
    exact cans ds
  | .row ns => by
    show (PyData.tuple (ns.map PyData.int)).canLay0 = true
    rw [PyData.canLay0]
    exact can_ints ns
theorem cans : ∀ ds : List Da, PyData.canLayAll0 (Da.pys ds) = true
  | [] => rfl
  | d :: ds => by
    show PyData.canLayAll0 (d.py :: Da.pys ds) = true
    rw [PyData.canLayAll0, can d, cans ds]
    rfl
end
/-! how deep -/
mutual
def Da.dp : Da → Nat
  | .none => 0
  | .bool _ => 0
  | .int _ => 0
  | .tuple ds => Da.dps ds + 1
  | .row _ => 1
def Da.dps : List Da → Nat
  | [] => 0
  | d :: ds => max d.dp (Da.dps ds)
end
mutual
theorem dp_is : ∀ d : Da, d.py.depth = d.dp
  | .none => rfl
  | .bool _ => rfl
  | .int _ => rfl
  | .tuple ds => by
    show (PyData.tuple (Da.pys ds)).depth = _
    rw [PyData.depth, dps_is ds] <;> rfl
  | .row ns => by
    show (PyData.tuple (ns.map PyData.int)).depth = _
    rw [PyData.depth, depth_ints ns] <;> rfl
theorem dps_is : ∀ ds : List Da, PyData.depthAll (Da.pys ds) = Da.dps ds
  | [] => rfl
  | d :: ds => by
    show PyData.depthAll (d.py :: Da.pys ds) = _
    rw [PyData.depthAll, dp_is d, dps_is ds] <;> rfl
end
theorem shaped_of {d : Da} (h : d.dp ≤ 64) : SeqAt.shaped d.py = true := by
  unfold SeqAt.shaped
  rw [can d, dp_is d, decide_eq_true h]
  rfl
theorem pys_ints : ∀ ns : List Int, Da.pys (dI ns) = ns.map PyData.int
  | [] => rfl
  | n :: ns => by
    show Da.py (.int n) :: Da.pys (dI ns) = _
    rw [pys_ints ns]
    rfl
theorem dps_ints' : ∀ ns : List Int, Da.dps (dI ns) = 0
  | [] => rfl
  | n :: ns => by
    show max 0 (Da.dps (dI ns)) = 0
    rw [dps_ints' ns]
    rfl
section
variable {X : Cx} {e a b c : Expr} {es : List Expr} {σ : L2.St} {H H' : Hp} {pos p : Pos} {d d' : Da} {ds : List Da} {x : Str} {i j : Int}
/-- a == b, a != b where both are the same data -/
theorem dd_same {R1 R2' : V → Hp → Prop} (ha : De X a σ H R1) (hb : De X b σ H R2') (hu : X.A.units + 64 < cLine) (h : ∀ x y H2 H3, R1 x H2 → Kp [] H2 H3 → R2' y H3 → ∃ d : PyData, Dp X.K H3 x d ∧ Dp X.K H3 y d ∧ SeqAt.shaped d = true) : DD X (.Compare a [.Eq] [b] pos) σ H (.bool true) :=
  .of (pe_cmpR (op_eqD hu) wE_pe wE_pe (nomark _)) (De.two ha hb fun x y H1 H2 H3 _ r1 k2 k3 r2 => by
    obtain ⟨d, q1, q2, q3⟩ := h x y H2 H3 r1 k3 r2
    exact ⟨d, d, q1, q2, q3, q3, k2.trans k3, by rw [SeqAt.eqv_refl d (SeqAt.canLay_of_shaped q3)]; exact .bl true⟩)
theorem dt_differs {R1 R2' : V → Hp → Prop} (ha : De X a σ H R1) (hb : De X b σ H R2') (hu : X.A.units + 64 < cLine) (h : ∀ x y H2 H3, R1 x H2 → Kp [] H2 H3 → R2' y H3 → ∃ d : PyData, Dp X.K H3 x d ∧ Dp X.K H3 y d ∧ SeqAt.shaped d = true) : Dt X (.Compare a [.NotEq] [b] pos) σ H false :=
  .of (pt_cmpR (op_neD hu) wE_pe wE_pe (nomark _)) fun H1 q => wE_mono (ha H1 q) fun x H2 ⟨k2, r1⟩ => wE_mono (hb H2 (q.trans k2)) fun y H3 ⟨k3, r2⟩ => by
    obtain ⟨d, q1, q2, q3⟩ := h x y H2 H3 r1 k3 r2
    exact ⟨d, d, q1, q2, q3, q3, _, rfl, k2.trans k3, by rw [SeqAt.eqv_refl d (SeqAt.canLay_of_shaped q3)] <;> rfl⟩
theorem dd_sameD (ha : DD X a σ H d) (hb : DD X b σ H d) (hu : X.A.units + 64 < cLine) (hs : d.dp ≤ 64) : DD X (.Compare a [.Eq] [b] pos) σ H (.bool true) := dd_same ha hb hu fun x y H2 H3 r1 k3 r2 => ⟨d.py, (k3.r r1).dp, r2.dp, shaped_of hs⟩
theorem dt_differsD (ha : DD X a σ H d) (hb : DD X b σ H d) (hu : X.A.units + 64 < cLine) (hs : d.dp ≤ 64) : Dt X (.Compare a [.NotEq] [b] pos) σ H false := dt_differs ha hb hu fun x y H2 H3 r1 k3 r2 => ⟨d.py, (k3.r r1).dp, r2.dp, shaped_of hs⟩
/-- two new lists of the same ints -/
theorem dd_sameL {ns : List Int} (ha : DL X a σ H (dI ns)) (hb : DL X b σ H (dI ns)) (hu : X.A.units + 64 < cLine) : DD X (.Compare a [.Eq] [b] pos) σ H (.bool true) := dd_same ha hb hu fun x y H2 H3 r1 k3 r2 => by
  obtain ⟨p1, rfl, _, xs, h1, rs⟩ := r1
  obtain ⟨p2, rfl, _, ys, h2, ss⟩ := r2
  refine ⟨.list (ns.map PyData.int), .lst (.of (k3.l h1)) ?_, .lst (.of h2) ?_, ?_⟩
  · rw [rs.ints]
    exact dps_ints ns
  · rw [ss.ints]
    exact dps_ints ns
  · unfold SeqAt.shaped
    rw [PyData.canLay0, can_ints, PyData.depth, depth_ints]
    rfl

/-! ### in -/
theorem inV_ints (k : Int) : ∀ ns : List Int, inV (.int k) (ns.map V.int) = decide (k ∈ ns)
  | [] => rfl
  | n :: ns => by
    show (eqV (.int n) (.int k) || inV (.int k) (ns.map V.int)) = _
    rw [inV_ints k ns]
    show ((n == k) || decide (k ∈ ns)) = _
    by_cases h : n = k
    · rw [beq_iff_eq.mpr h, Bool.true_or, decide_eq_true (by rw [h]; exact List.mem_cons_self)]
    · rw [beq_eq_false_iff_ne.mpr h, Bool.false_or]
      by_cases g : k ∈ ns
      · rw [decide_eq_true g, decide_eq_true (List.mem_cons_of_mem _ g)]
      · rw [decide_eq_false g, decide_eq_false (fun z => (List.mem_cons.mp z).elim (fun z => h z.symm) g)]
theorem dt_in {ns : List Int} (ha : DD X a σ H (.int i)) (hb : DD X b σ H (.tuple (dI ns))) (hm : behindInMarks .In b = false := by rfl) : Dt X (.Compare a [.In] [b] pos) σ H (decide (i ∈ ns)) :=
  .of (pt_cmpR op_in_seq wE_pe wE_pe hm) fun H1 q => wE_mono (ha H1 q) fun x H2 ⟨k2, r1⟩ => wE_mono (hb H2 (q.trans k2)) fun y H3 ⟨k3, r2⟩ => by
    obtain ⟨t, xs, rfl, hx, rs⟩ := r2.t
    have e := rs.ints
    subst e
    refine ⟨t, _, rfl, .inr hx, by rw [r1.i] <;> rfl, flat_ints ns, _, rfl, k2.trans k3, ?_⟩
    rw [r1.i, inV_ints] <;> rfl
/-- k not in l, l a list of ints that stands -/
theorem dt_niL {l : Addr} {ns : List Int} (ha : DD X a σ H (.int i)) (hb : De X b σ H fun v H2 => v = .ref l ∧ RL X.K H2 l (dI ns)) (hm : behindInMarks .NotIn b = false := by rfl) : Dt X (.Compare a [.NotIn] [b] pos) σ H (!decide (i ∈ ns)) :=
  .of (pt_cmpR op_notIn_seq wE_pe wE_pe hm) fun H1 q => wE_mono (ha H1 q) fun x H2 ⟨k2, r1⟩ => wE_mono (hb H2 (q.trans k2)) fun y H3 ⟨k3, r2⟩ => by
    obtain ⟨rfl, xs, hx, rs⟩ := r2
    have e := rs.ints
    subst e
    refine ⟨l, _, rfl, .inl (.of hx), by rw [r1.i] <;> rfl, flat_ints ns, _, rfl, k2.trans k3, ?_⟩
    rw [r1.i, inV_ints] <;> rfl
theorem dt_inL {l : Addr} {ns : List Int} (ha : DD X a σ H (.int i)) (hb : De X b σ H fun v H2 => v = .ref l ∧ RL X.K H2 l (dI ns)) (hm : behindInMarks .In b = false := by rfl) : Dt X (.Compare a [.In] [b] pos) σ H (decide (i ∈ ns)) :=
  .of (pt_cmpR op_in_seq wE_pe wE_pe hm) fun H1 q => wE_mono (ha H1 q) fun x H2 ⟨k2, r1⟩ => wE_mono (hb H2 (q.trans k2)) fun y H3 ⟨k3, r2⟩ => by
    obtain ⟨rfl, xs, hx, rs⟩ := r2
    have e := rs.ints
    subst e
    refine ⟨l, _, rfl, .inl (.of hx), by rw [r1.i] <;> rfl, flat_ints ns, _, rfl, k2.trans k3, ?_⟩
    rw [r1.i, inV_ints] <;> rfl
theorem dt_isNone (ha : DD X a σ H d) {k : Nat} {pos' : Pos} : Dt X (.Compare a [.Is] [.Constant .none k pos'] pos) σ H (match d with | .none => true | _ => false) :=
  .of (pt_cmp (pc_isN wE_pe)) fun H1 q => wE_mono (ha H1 q) fun x H2 ⟨k2, r1⟩ => ⟨_, rfl, k2, by cases r1 <;> rfl⟩

/-! ### rows' methods -/
theorem dd_index {ns : List Int} {apos : Pos} (ho : DD X a σ H (.row ns)) (hb : DD X b σ H (.int i)) (hm : i ∈ ns) (hbase : attributeBase a "index" X.env (eval a X.env) = eval a X.env := by rfl)
    (hfew : ((backTo pos (starEach [b] X.env)).all (fun x => !x.1) && (backToKw pos (keywordEach [] X.env)).all (fun x => x.1.isSome) && decide ([b].length + ([] : List Keyword).length + (if ([] : List Keyword).isEmpty then 0 else 1) < 30)) = true := by rfl)
    (hline : (apos.endLine == pos.line) = true := by rfl) (hs : starEach [b] X.env = (false, eval b X.env) :: starEach [] X.env := by rfl) (hpl : (backTo pos (starEach [] X.env)).any (·.1) = false := by rfl) : DD X (.Call (.Attribute a "index" apos) [b] [] pos) σ H (.int (ns.idxOf i : Nat)) :=
  .of (pe_mG ty_row PySem.F.plainAttrs_tuple PySem.F.slot_tuple_index PySem.F.type_tuple_index mt_tindex wE_pe (pa_cons wE_pe pa_nil hs) hbase hfew hline hs hpl) fun H1 k => wE_mono (ho H1 k) fun x H2 ⟨k2, r1⟩ => by
    obtain ⟨t, o, rfl, h, hd⟩ := r1.w
    exact ⟨⟨t, o, ns, rfl, h, hd⟩, wE_mono (hb H2 (k.trans k2)) fun y H3 ⟨k3, r2⟩ => ⟨t, ns, i, rfl, by rw [r2.i], .inl (.inr ⟨o, k3.frz _ _ _ h⟩), hm, k2.trans k3, .int _⟩⟩
theorem dd_count {ns : List Int} {apos : Pos} (ho : DD X a σ H (.row ns)) (hb : DD X b σ H (.int i)) (hbase : attributeBase a "count" X.env (eval a X.env) = eval a X.env := by rfl)
    (hfew : ((backTo pos (starEach [b] X.env)).all (fun x => !x.1) && (backToKw pos (keywordEach [] X.env)).all (fun x => x.1.isSome) && decide ([b].length + ([] : List Keyword).length + (if ([] : List Keyword).isEmpty then 0 else 1) < 30)) = true := by rfl)
    (hline : (apos.endLine == pos.line) = true := by rfl) (hs : starEach [b] X.env = (false, eval b X.env) :: starEach [] X.env := by rfl) (hpl : (backTo pos (starEach [] X.env)).any (·.1) = false := by rfl) : DD X (.Call (.Attribute a "count" apos) [b] [] pos) σ H (.int (ns.count i : Nat)) :=
  .of (pe_mG ty_row PySem.F.plainAttrs_tuple PySem.F.slot_tuple_count PySem.F.type_tuple_count mt_tcount wE_pe (pa_cons wE_pe pa_nil hs) hbase hfew hline hs hpl) fun H1 k => wE_mono (ho H1 k) fun x H2 ⟨k2, r1⟩ => by
    obtain ⟨t, o, rfl, h, hd⟩ := r1.w
    exact ⟨⟨t, o, ns, rfl, h, hd⟩, wE_mono (hb H2 (k.trans k2)) fun y H3 ⟨k3, r2⟩ => ⟨t, ns, i, rfl, by rw [r2.i], .inl (.inr ⟨o, k3.frz _ _ _ h⟩), k2.trans k3, .int _⟩⟩
/-- l.index(k), l a list of ints that stands -/
theorem dd_indexL {l : Addr} {ns : List Int} {apos : Pos} (ho : De X a σ H fun v H2 => v = .ref l ∧ RL X.K H2 l (dI ns)) (hb : DD X b σ H (.int i)) (hm : i ∈ ns) (hbase : attributeBase a "index" X.env (eval a X.env) = eval a X.env := by rfl)
    (hfew : ((backTo pos (starEach [b] X.env)).all (fun x => !x.1) && (backToKw pos (keywordEach [] X.env)).all (fun x => x.1.isSome) && decide ([b].length + ([] : List Keyword).length + (if ([] : List Keyword).isEmpty then 0 else 1) < 30)) = true := by rfl)
    (hline : (apos.endLine == pos.line) = true := by rfl) (hs : starEach [b] X.env = (false, eval b X.env) :: starEach [] X.env := by rfl) (hpl : (backTo pos (starEach [] X.env)).any (·.1) = false := by rfl) : DD X (.Call (.Attribute a "index" apos) [b] [] pos) σ H (.int (ns.idxOf i : Nat)) :=
  .of (pe_bm PySem.F.plainAttrs_list PySem.F.slot_list_index PySem.F.type_list_index mt_index wE_pe (pa_cons wE_pe pa_nil hs) hbase hfew hline hs hpl) fun H1 k => wE_mono (ho H1 k) fun x H2 ⟨k2, r1⟩ => by
    obtain ⟨rfl, xs, h, rs⟩ := r1
    have e := rs.ints
    subst e
    refine ⟨.inl ⟨rfl, _, .of h⟩, wE_mono (hb H2 (k.trans k2)) fun y H3 ⟨k3, r2⟩ => ?_⟩
    have hl : ns.idxOf i < ns.length := List.idxOf_lt_length_iff.mpr hm
    refine ⟨l, _, .int i, ns.idxOf i, .int i, rfl, by rw [r2.i], .of (k3.l h), rfl, flat_ints ns, ?_, ?_, fun m z' hmj hz => ?_, k2.trans k3, .int _⟩
    · rw [List.getElem?_map, List.getElem?_eq_getElem hl, List.getElem_idxOf hl] <;> rfl
    · exact beq_self_eq_true i
    · rw [List.getElem?_map] at hz
      have hm' : m < ns.length := by omega
      rw [List.getElem?_eq_getElem hm'] at hz
      rw [← Option.some.inj hz]
      refine beq_eq_false_iff_ne.mpr fun e => ?_
      have h1 := List.not_of_lt_findIdx (p := fun x => x == i) (xs := ns) (i := m) hmj
      simp [e] at h1
end
end G28
namespace G28
open PySem PySem.Spec PyProof.Rows L2
variable [Tb]
section
variable {X : Cx} {e a b c : Expr} {es : List Expr} {σ : L2.St} {H H' : Hp} {pos p : Pos} {d d' : Da} {ds : List Da} {x : Str} {i j : Int}
/-! ### built-ins -/
theorem boot_max : bootBuiltins "max" = some (.builtin "max") := by decide +kernel
theorem boot_min : bootBuiltins "min" = some (.builtin "min") := by decide +kernel
theorem boot_all : bootBuiltins "all" = some (.builtin "all") := by decide +kernel
theorem dd_max2 (ha : DD X a σ H (.int i)) (hb : DD X b σ H (.int j)) (hm : X.mg "max" = none) (hc : X.calm = true := by rfl) (hg : Gl X "max" := by rfl) (he : starEach [a, b] X.env = (false, eval a X.env) :: starEach [b] X.env := by rfl) (he2 : starEach [b] X.env = (false, eval b X.env) :: starEach [] X.env := by rfl)
    (hpl : (backTo pos (starEach [b] X.env)).any (·.1) = false := by rfl) : DD X (.Call (.Name "max" p) [a, b] [] pos) σ H (.int (max i j)) :=
  .of (pe_callB (call_max2 hc) hg hm boot_max (pa_cons wE_pe (pa_cons wE_pe pa_nil he2) he) (he := he) (hpl := hpl)) fun H1 k => wE_mono (ha H1 k) fun x H2 ⟨k2, r1⟩ => wE_mono (hb H2 (k.trans k2)) fun y H3 ⟨k3, r2⟩ => ⟨i, j, by rw [r1.i, r2.i], k2.trans k3, by
    have e : (if j > i then j else i) = max i j := by
      split <;> omega
    rw [e]
    exact .int _⟩
theorem dd_min2 (ha : DD X a σ H (.int i)) (hb : DD X b σ H (.int j)) (hm : X.mg "min" = none) (hc : X.calm = true := by rfl) (hg : Gl X "min" := by rfl) (he : starEach [a, b] X.env = (false, eval a X.env) :: starEach [b] X.env := by rfl) (he2 : starEach [b] X.env = (false, eval b X.env) :: starEach [] X.env := by rfl)
    (hpl : (backTo pos (starEach [b] X.env)).any (·.1) = false := by rfl) : DD X (.Call (.Name "min" p) [a, b] [] pos) σ H (.int (min i j)) :=
  .of (pe_callB (call_min2 hc) hg hm boot_min (pa_cons wE_pe (pa_cons wE_pe pa_nil he2) he) (he := he) (hpl := hpl)) fun H1 k => wE_mono (ha H1 k) fun x H2 ⟨k2, r1⟩ => wE_mono (hb H2 (k.trans k2)) fun y H3 ⟨k3, r2⟩ => ⟨i, j, by rw [r1.i, r2.i], k2.trans k3, by
    have e : (if j < i then j else i) = min i j := by
      split <;> omega
    rw [e]
    exact .int _⟩
/-- max(t), m the greatest item -/
theorem dd_maxT {ns : List Int} {m : Int} (ha : DD X a σ H (.tuple (dI ns))) (h1 : m ∈ ns) (h2 : ∀ y ∈ ns, y ≤ m) (hl : ns.length ≤ 1000) (hm : X.mg "max" = none) (hu : X.A.units + 64 < cLine) (hc : X.calm = true := by rfl) (hg : Gl X "max" := by rfl)
    (he : starEach [a] X.env = (false, eval a X.env) :: starEach [] X.env := by rfl) (hpl : (backTo pos (starEach [] X.env)).any (·.1) = false := by rfl) : DD X (.Call (.Name "max" p) [a] [] pos) σ H (.int m) :=
  .of (pe_callB (cr_maxT hc hu) hg hm boot_max (pa_cons wE_pe pa_nil he) (he := he) (hpl := hpl)) fun H1 k => wE_mono (ha H1 k) fun x H2 ⟨k2, r1⟩ => by
    obtain ⟨t, xs, rfl, hx, rs⟩ := r1.t
    have e := rs.ints
    subst e
    exact ⟨t, ns, m, rfl, hx, h1, h2, hl, k2, .int m⟩
theorem dd_all {bs : List Bool} (ha : DL X a σ H (bs.map Da.bool)) (hm : X.mg "all" = none) (hc : X.calm = true := by rfl) (hg : Gl X "all" := by rfl) (he : starEach [a] X.env = (false, eval a X.env) :: starEach [] X.env := by rfl)
    (hpl : (backTo pos (starEach [] X.env)).any (·.1) = false := by rfl) : DD X (.Call (.Name "all" p) [a] [] pos) σ H (.bool (bs.all id)) :=
  .of (pe_callB (cr_all hc) hg hm boot_all (pa_cons wE_pe pa_nil he) (he := he) (hpl := hpl)) fun H1 k => wE_mono (ha H1 k) fun x H2 ⟨k2, r1⟩ => by
    obtain ⟨l, rfl, _, xs, hx, rs⟩ := r1
    have e := rs.bls
    subst e
    exact ⟨l, bs, rfl, .of hx, k2, .bl _⟩
theorem dl_sorted {ns ms : List Int} (ha : DD X a σ H (.tuple (dI ns))) (h64 : ns.length < 64) (hp : ms.Perm ns) (hs : ms.Pairwise (· ≤ ·)) (hm : X.mg "sorted" = none) (hg : Gl X "sorted" := by rfl) (he : starEach [a] X.env = (false, eval a X.env) :: starEach [] X.env := by rfl)
    (hpl : (backTo pos (starEach [] X.env)).any (·.1) = false := by rfl) : DL X (.Call (.Name "sorted" p) [a] [] pos) σ H (dI ms) :=
  .of (pe_callB cr_sortT hg hm PyProof.Rows.boot_sorted (pa_cons wE_pe pa_nil he) (he := he) (hpl := hpl)) fun H1 k => wE_mono (ha H1 k) fun x H2 ⟨k2, r1⟩ => by
    obtain ⟨t, xs, rfl, hx, rs⟩ := r1.t
    have e := rs.ints
    subst e
    exact ⟨t, ns, ms, rfl, hx, h64, hp, hs, fun l hl => ⟨k2.trans (Kp.new hl), l, rfl, k.fresh (k2.fresh hl), _, upd_same, RpA.of_ints ms⟩⟩
/-- the ints 0 .. n - 1 -/
def upto (n : Nat) : List Int := (List.range n).map Int.ofNat
theorem upto_len (n : Nat) : (upto n).length = n := by simp [upto]
theorem rgV_upto (n : Nat) : rgV 0 (n : Int) = (upto n).map V.int := by
  unfold rgV upto
  rw [List.map_map, show ((n : Int) - 0).toNat = n by omega]
  exact List.map_congr_left fun k _ => congrArg V.int (Int.zero_add _)
theorem rg_ok {n : Nat} (h : n ≤ 100000) : RgOk 0 (n : Int) := .of_le (Int.le_refl _) (by omega) (by omega) (by omega)
theorem dl_listRg {n : Nat} {p2 pos2 : Pos} (ha : DD X a σ H (.int (n : Int))) (hn : n ≤ 100000) (hm : X.mg "list" = none) (hm2 : X.mg "range" = none) (hc : X.calm = true := by rfl) (hg : Gl X "list" := by rfl) (hg2 : Gl X "range" := by rfl)
    (he : starEach [a] X.env = (false, eval a X.env) :: starEach [] X.env := by rfl) (he2 : starEach [.Call (.Name "range" p2) [a] [] pos2] X.env = (false, eval (.Call (.Name "range" p2) [a] [] pos2) X.env) :: starEach [] X.env := by rfl) :
    DL X (.Call (.Name "list" p) [.Call (.Name "range" p2) [a] [] pos2] [] pos) σ H (dI (upto n)) :=
  .of (pe_listRg hc hg hm (prg_1 hg2 hm2 wE_pe he) he2) fun H1 k => wE_mono (ha H1 k) fun x H2 ⟨k2, r1⟩ => ⟨(n : Int), r1.i, rg_ok hn, fun l hl => ⟨k2.trans (Kp.new hl), l, rfl, k.fresh (k2.fresh hl), _, upd_same, by rw [rgV_upto]; exact RpA.of_ints _⟩⟩
theorem dd_tupRg {n : Nat} {p2 pos2 : Pos} (ha : DD X a σ H (.int (n : Int))) (hn : n ≤ 100000) (hm : X.mg "tuple" = none) (hm2 : X.mg "range" = none) (hc : X.calm = true := by rfl) (hg : Gl X "tuple" := by rfl) (hg2 : Gl X "range" := by rfl)
    (he : starEach [a] X.env = (false, eval a X.env) :: starEach [] X.env := by rfl) (he2 : starEach [.Call (.Name "range" p2) [a] [] pos2] X.env = (false, eval (.Call (.Name "range" p2) [a] [] pos2) X.env) :: starEach [] X.env := by rfl) :
    DD X (.Call (.Name "tuple" p) [.Call (.Name "range" p2) [a] [] pos2] [] pos) σ H (.tuple (dI (upto n))) :=
  .of (pe_tupRg hc hg hm (prg_1 hg2 hm2 wE_pe he) he2) fun H1 k => wE_mono (ha H1 k) fun x H2 ⟨k2, r1⟩ => ⟨(n : Int), r1.i, rg_ok hn, fun l hl => ⟨k2.trans (Kp.new hl), .tup (.inl (.inl upd_same)) (by rw [rgV_upto]; exact RpA.of_ints _)⟩⟩
/-- tuple(l): a new tuple; of ints: a row -/
theorem dd_tupL {R : V → Hp → Prop} (ha : De X a σ H R) (hR : ∀ v H2, R v H2 → ∃ l, v = .ref l ∧ RL X.K H2 l ds) (hm : X.mg "tuple" = none) (hg : Gl X "tuple" := by rfl) (he : starEach [a] X.env = (false, eval a X.env) :: starEach [] X.env := by rfl) : DD X (.Call (.Name "tuple" p) [a] [] pos) σ H (.tuple ds) :=
  .of (pe_tupleOf hg hm wE_pe he) fun H1 k => wE_mono (ha H1 k) fun x H2 ⟨k2, r1⟩ => by
    obtain ⟨l, rfl, xs, hx, rs⟩ := hR _ _ r1
    exact .inl ⟨l, xs, rfl, .of hx, fun q hq => ⟨k2.trans (Kp.new hq), .tup (.inl (.inl upd_same)) ((Kp.new (M := []) hq).ra rs)⟩⟩
theorem dd_tupN (ha : DL X a σ H ds) (hm : X.mg "tuple" = none) (hg : Gl X "tuple" := by rfl) (he : starEach [a] X.env = (false, eval a X.env) :: starEach [] X.env := by rfl) : DD X (.Call (.Name "tuple" p) [a] [] pos) σ H (.tuple ds) :=
  dd_tupL ha (fun v H2 ⟨l, e, _, r⟩ => ⟨l, e, r⟩) hm hg he
theorem dd_tupS {l : Addr} (ha : De X a σ H fun v H2 => v = .ref l ∧ RL X.K H2 l ds) (hm : X.mg "tuple" = none) (hg : Gl X "tuple" := by rfl) (he : starEach [a] X.env = (false, eval a X.env) :: starEach [] X.env := by rfl) : DD X (.Call (.Name "tuple" p) [a] [] pos) σ H (.tuple ds) :=
  dd_tupL ha (fun v H2 ⟨e, r⟩ => ⟨l, e, r⟩) hm hg he
theorem dd_rowN {ns : List Int} (ha : DL X a σ H (dI ns)) (hm : X.mg "tuple" = none) (hg : Gl X "tuple" := by rfl) (he : starEach [a] X.env = (false, eval a X.env) :: starEach [] X.env := by rfl) : DD X (.Call (.Name "tuple" p) [a] [] pos) σ H (.row ns) :=
  .of (pe_rowOf hg hm wE_pe he) fun H1 k => wE_mono (ha H1 k) fun x H2 ⟨k2, r1⟩ => by
    obtain ⟨l, rfl, _, xs, hx, rs⟩ := r1
    have e := rs.ints
    subst e
    exact ⟨l, ns, rfl, .of hx, fun q o ho hq => ⟨k2.trans (Kp.new hq), .row upd_same ho⟩⟩
/-- (e,) * n -/
theorem dd_rep {n : Nat} {k0 : Nat} {p2 : Pos} (ha : DD X a σ H (.int i)) (hb : DD X b σ H (.int (n : Int))) (h1 : 1 ≤ n) (h2 : n ≤ 1000) (hs : starEach [a] X.env = (false, eval a X.env) :: starEach [] X.env := by rfl) : DD X (.BinOp (.Tuple [a] k0 p2) .Mult b pos) σ H (.row (List.replicate n i)) :=
  .of (pe_op op_repW (pe_tupF (pa_cons wE_pe pa_nil hs)) wE_pe) fun H1 k => wE_mono (ha H1 k) fun x H2 ⟨k2, r1⟩ => by
    have ex := r1.i
    subst ex
    exact ⟨small (show 1 ≤ 100000 by decide), fun q o ho hq => wE_mono (hb _ (k.trans (k2.trans (Kp.new hq)))) fun y H3 ⟨k3, r2⟩ =>
      ⟨q, (n : Int), o, .int i, rfl, r2.i, k3.frz _ _ _ upd_same, by omega, by omega, fun e => ⟨(k2.trans (Kp.new hq)).trans k3, by
        have e1 : n = 1 := by omega
        subst e1
        exact .row (o := o) (k3.frz _ _ _ upd_same) ho⟩, fun _ q' o' ho' hq' => ⟨((k2.trans (Kp.new hq)).trans k3).trans (Kp.new hq'), by
        refine .row (o := o') ?_ ho'
        rw [Int.toNat_natCast, List.map_replicate]
        exact upd_same⟩⟩⟩
/-! ### isinstance -/
theorem de_ty {T : String} {y : Str} (hm : X.mg y = none) (hv : bootBuiltins y = some (.type T)) (hg : Gl X y := by rfl) (hn : y ≠ "__name__" := by decide) (hd : (y == ("__debug__" : Str)) = false := by decide) : De X (.Name y pos) σ H fun v _ => v = .ty T :=
  .of (pe_bltn (v := .ty T) hg hm hv rfl hn hd) fun H1 k => ⟨Kp.refl H1, rfl⟩
theorem tyx_tup {K : PySem.W.Frag} {a : Addr} {xs : List V} (h : SqT K H a xs) : TyX K H (.ref a) (.type "tuple") := by
  rcases h with (h | ⟨o, h⟩) | ⟨o, its, n, hk, hc, _⟩
  · exact .base (.tup h)
  · exact .fTuple h
  · exact .kTuple hk hc
theorem dd_isi {T S : String} {y : Str} {k : Bool} (ha : DD X a σ H d) (ht : ∀ v H2, Rp X.K H2 v d → TyX X.K H2 v (.type S)) (hk : kitB S T = some k) (hm : X.mg "isinstance" = none) (hm2 : X.mg y = none) (hv : bootBuiltins y = some (.type T)) (hg : Gl X "isinstance" := by rfl) (hg2 : Gl X y := by rfl) (hn : y ≠ "__name__" := by decide)
    (hd : (y == ("__debug__" : Str)) = false := by decide) {p2 : Pos} (he : starEach [a, .Name y p2] X.env = (false, eval a X.env) :: starEach [.Name y p2] X.env := by rfl) (he2 : starEach [.Name y p2] X.env = (false, eval (.Name y p2) X.env) :: starEach [] X.env := by rfl)
    (hpl : (backTo pos (starEach [.Name y p2] X.env)).any (·.1) = false := by rfl) : DD X (.Call (.Name "isinstance" p) [a, .Name y p2] [] pos) σ H (.bool k) :=
  .of (pe_callB call_isi hg hm PyProof.Rows.boot_isinstance (pa_cons wE_pe (pa_cons wE_pe pa_nil he2) he) (he := he) (hpl := hpl)) fun H1 q => wE_mono (ha H1 q) fun x H2 ⟨k2, r1⟩ => wE_mono (de_ty (σ := σ) (pos := p2) hm2 hv hg2 hn hd H2 (q.trans k2)) fun z H3 ⟨k3, r2⟩ =>
    ⟨x, .ty T, .type S, .type T, k, by rw [r2], .ty T, ht x H3 (k3.r r1), kit_ty hk, k2.trans k3, .bl k⟩
theorem int_ty {v : V} (r : Rp X.K H v (.int i)) : TyX X.K H v (.type "int") := by
  rw [r.i]
  exact .base (.int i)
theorem tup_ty {v : V} (r : Rp X.K H v (.tuple ds)) : TyX X.K H v (.type "tuple") := by
  obtain ⟨t, xs, rfl, hx, _⟩ := r.t
  exact tyx_tup hx
/-! ### int(b), repr(i) == repr(j) -/
theorem dd_intB {k : Bool} (ha : DD X a σ H (.bool k)) (hm : X.mg "int" = none) (hg : Gl X "int" := by rfl) (he : starEach [a] X.env = (false, eval a X.env) :: starEach [] X.env := by rfl) (hpl : (backTo pos (starEach [] X.env)).any (·.1) = false := by rfl) : DD X (.Call (.Name "int" p) [a] [] pos) σ H (.int (if k then 1 else 0)) :=
  .of (pe_callTy call_int1 hg hm PyProof.Rows.boot_int (pa_cons wE_pe pa_nil he) (he := he) (hpl := hpl)) fun H1 q => wE_mono (ha H1 q) fun x H2 ⟨k2, r1⟩ => .inr ⟨k, by rw [r1.b], k2, .int _⟩
theorem log_small {i : Int} (h0 : 0 ≤ i) (h1 : i ≤ 1000) : i.natAbs.log2 < 1920 := by
  have h2 : i.natAbs < 2 ^ 1920 := Nat.lt_of_le_of_lt (show i.natAbs ≤ 1000 by omega) (Nat.lt_of_lt_of_le (show 1000 < 2 ^ 10 by decide) (Nat.pow_le_pow_right (by decide) (by decide)))
  by_cases z : i.natAbs = 0
  · rw [z]
    decide
  · exact (Nat.log2_lt z).mpr h2
theorem de_repr (ha : DD X a σ H (.int i)) (h0 : 0 ≤ i) (h1 : i ≤ 1000) (hm : X.mg "repr" = none) (hg : Gl X "repr" := by rfl) (he : starEach [a] X.env = (false, eval a X.env) :: starEach [] X.env := by rfl) (hpl : (backTo pos (starEach [] X.env)).any (·.1) = false := by rfl) :
    De X (.Call (.Name "repr" p) [a] [] pos) σ H fun v _ => v = .str (toString i) :=
  .of (pe_callB SkE.call_repr_int hg hm PyProof.Rows.boot_repr (pa_cons wE_pe pa_nil he) (he := he) (hpl := hpl)) fun H1 q => wE_mono (ha H1 q) fun x H2 ⟨k2, r1⟩ => ⟨i, by rw [r1.i], log_small h0 h1, k2, rfl⟩
theorem dt_repr (ha : De X a σ H fun v _ => v = .str (toString i)) (hb : De X b σ H fun v _ => v = .str (toString j)) (h0 : 0 ≤ i) (h1 : i ≤ 1000) (g0 : 0 ≤ j) (g1 : j ≤ 1000) : Dt X (.Compare a [.Eq] [b] pos) σ H (decide (i = j)) := dt_eqS ha hb fun x y _ _ r1 _ r2 => by
  rw [r1, r2]
  refine ⟨rfl, ?_⟩
  by_cases h : i = j
  · rw [decide_eq_true h, decide_eq_true (by rw [h])]
  · rw [decide_eq_false h, decide_eq_false fun z => h ?_]
    have z2 : (Str.ofString (toString i)) = Str.ofString (toString j) := V.str.inj z
    have q1 := PySem.W.KIN.num_reads h0 (show i < 10 ^ 10 by omega)
    rw [z2, PySem.W.KIN.num_reads g0 (show j < 10 ^ 10 by omega)] at q1
    exact (Option.some.inj q1).symm
end
end G28
namespace G28
open PySem PySem.Spec PyProof.Rows L2
variable [Tb]
/-! ### defs: what one promises, its call -/
def Cal (P : Program) (w : World) (K : PySem.W.Frag) (mg : Str → Option Value) (base : Heap) (k : Nat) (x : Str) (ps : List Str) (sp : Sp) : Prop :=
  ∃ (f : Addr) (fd : FuncData), FnOk P w K mg base CX0 k f fd ps sp ∧ mg x = some (.ref f) ∧ PySem.W.keepIn K (.ref f) = true ∧ Binds K fd ps []
/-- data in, data out, nothing else changes -/
def pS (K : PySem.W.Frag) (R : List Da → Da → Prop) : Sp := fun vs H Q _ => ∃ ds d, RpA K H vs ds ∧ R ds d ∧ ∀ v H', Kp [] H H' → Rp K H' v d → Q v H'
def Ret (K : PySem.W.Frag) (H : Hp) (d : Da) : VK := fun v H' => Kp [] H H' ∧ Rp K H' v d
section
variable {X : Cx} {e a b c : Expr} {es : List Expr} {σ : L2.St} {H H' : Hp} {pos p px : Pos} {d d' : Da} {ds : List Da} {x : Str} {i j : Int} {k : Nat} {ps : List Str} {sp : Sp} {R : List Da → Da → Prop}
theorem w_call (G : Cal X.prog X.w X.K X.mg X.base k x ps sp) (hr : Room k X.A) {Q : VK} (h : wA X (e :: es) σ H fun vs H1 => sp vs H1 Q E0) (hg : Gl X x := by rfl) (hdb : (x == ("__debug__" : Str)) = false := by decide)
    (he : starEach (e :: es) X.env = (false, eval e X.env) :: starEach es X.env := by rfl) (hpl : (backTo pos (starEach es X.env)).any (·.1) = false := by rfl) : wE X (.Call (.Name x p) (e :: es) [] pos) σ H Q := by
  obtain ⟨f, fd, F, hm, hk, hb⟩ := G
  exact wE_of (pe_call F hr hg hm hk hb .nil pass0 wA_pa hdb he hpl) (wA_mono h fun vs H1 q => by rw [List.append_nil]; exact q)
theorem dd_call (G : Cal X.prog X.w X.K X.mg X.base k x ps (pS X.K R)) (hr : Room k X.A) (ha : DAs X (e :: es) σ H ds) (hR : R ds d) (hg : Gl X x := by rfl) (hdb : (x == ("__debug__" : Str)) = false := by decide)
    (he : starEach (e :: es) X.env = (false, eval e X.env) :: starEach es X.env := by rfl) (hpl : (backTo pos (starEach es X.env)).any (·.1) = false := by rfl) : DD X (.Call (.Name x p) (e :: es) [] pos) σ H d := fun H1 k1 =>
  w_call G hr (wA_mono (ha H1 k1) fun vs H2 ⟨k2, rs⟩ => ⟨ds, d, rs, hR, fun v H3 k3 r => ⟨k2.trans k3, r⟩⟩) hg hdb he hpl
end
/-- a def whose promise is of data -/
theorem okP {P : Program} {w : World} {K : PySem.W.Frag} {mg : Str → Option Value} {base : Heap} {x qual : Str} {st : Stmt} {f : Addr} {fd : FuncData} {N ps : List Str} {k : Nat} {R : List Da → Da → Prop} (F : Fun K x qual st f fd) (S : FnScope N ps (defScope st)) (hl : ∀ ds d, R ds d → ds.length = ps.length)
    (hb : ∀ (cdv : Value) (A : Around) (outer : List Env) (s : Shared) (H : Hp) (vs : List V) (E : XK) (ds : List Da) (d : Da), Room k (A.deeper (envOfC qual (defScope st) s.heap.objs.size f cdv)) → RpA K H vs ds → R ds d →
      wB (cxOf CX0 P w K mg base N qual (defScope st) f cdv A outer s H E).nox (defBody st) { nx := fun _ H' => Ret K H d .non H', rt := Ret K H d } (start N vs) H) : FnOk P w K mg base CX0 (k + 1) f fd ps (pS K R) := by
  refine F.ok S (fun vs H Q E h => ?_) fun cdv A outer s H vs Q E hr h => ?_
  · obtain ⟨ds, d, rs, hR, _⟩ := h
    rw [rs.len]
    exact hl ds d hR
  · obtain ⟨ds, d, rs, hR, q⟩ := h
    exact ⟨_, wB_ps, wB_mono (hb cdv A outer s H vs E ds d hr rs hR) ⟨fun _ H' z => q _ _ z.1 z.2, fun v H' z => q _ _ z.1 z.2, fun _ _ z => z, fun _ _ z => z⟩⟩
/-- a def by its body, any promise -/
theorem okW {P : Program} {w : World} {K : PySem.W.Frag} {mg : Str → Option Value} {base : Heap} {x qual : Str} {st : Stmt} {f : Addr} {fd : FuncData} {N ps : List Str} {k : Nat} {sp : Sp} (F : Fun K x qual st f fd) (S : FnScope N ps (defScope st)) (len : ∀ vs H Q E, sp vs H Q E → vs.length = ps.length)
    (hb : ∀ (cdv : Value) (A : Around) (outer : List Env) (s : Shared) (H : Hp) (vs : List V) (Q : VK) (E : XK), Room k (A.deeper (envOfC qual (defScope st) s.heap.objs.size f cdv)) → sp vs H Q E →
      wB (cxOf CX0 P w K mg base N qual (defScope st) f cdv A outer s H E).nox (defBody st) { nx := fun _ H' => Q .non H', rt := Q } (start N vs) H) : FnOk P w K mg base CX0 (k + 1) f fd ps sp :=
  F.ok S len fun cdv A outer s H vs Q E hr h => ⟨_, wB_ps, hb cdv A outer s H vs Q E hr h⟩

/-! ### what is walked -/
def wI (X : Cx) (tg iter : Expr) : TI := fun σ H R => ∀ (pins : List (Addr × Obj)) (s : Shared), Inv X pins σ H s → wpAny (model X.prog X.w) X.A (eval iter X.env) (fun v s1 => wpAny (model X.prog X.w) X.A (pyIter v) (PIE X pins σ tg R) X.xe s1) X.xe s
theorem wI_pi {X : Cx} {tg iter : Expr} : PI X tg iter (wI X tg iter) := ⟨fun pins s _ _ _ I h => h pins s I⟩
theorem wI_of {X : Cx} {tg iter : Expr} {wi : TI} (h : PI X tg iter wi) {σ : L2.St} {H : Hp} {R : It → Hp → Prop} (q : wi σ H R) : wI X tg iter σ H R := fun pins s I => h.run pins s σ H R I q
theorem wI_mono {X : Cx} {tg iter : Expr} {σ : L2.St} {H : Hp} {R R' : It → Hp → Prop} (h : wI X tg iter σ H R) (m : ∀ J H', R J H' → R' J H') : wI X tg iter σ H R' := fun pins s I =>
  thn (h pins s I) fun _ _ q => thn q fun _ _ ⟨it, fp, tn, J, H', e, I', T, t0, hf, r⟩ => ⟨it, fp, tn, J, H', e, I', T, t0, hf, m J H' r⟩
/-- the walk gives data, one by one; what changes meanwhile lies in M -/
def Src (M : List Addr) (X : Cx) (tg iter : Expr) (σ : L2.St) (H : Hp) (ds : List Da) : Prop :=
  ∀ H1, Kp [] H H1 → wI X tg iter σ H1 fun J H2 => Kp [] H1 H2 ∧ ∃ G : Hp → Prop, (∀ H3, Kp M H2 H3 → G H3) ∧ Walk J ds.length G fun i H3 x H4 => Kp [] H3 H4 ∧ ∃ d, ds[i]? = some d ∧ Rp X.K H4 x d
section
variable {M : List Addr} {X : Cx} {tg e a b c iter elt : Expr} {es : List Expr} {σ : L2.St} {H H' : Hp} {pos p px : Pos} {d d' : Da} {ds : List Da} {x : Str} {i j : Int} {k : Nat}
theorem src_tup (h : DD X iter σ H (.tuple ds)) : Src M X tg iter σ H ds := fun H1 k => wI_of (pi_tup wE_pe) <| wE_mono (h H1 k) fun v H2 ⟨k2, r⟩ => by
  obtain ⟨t, xs, rfl, hx, rs⟩ := r.t
  refine ⟨t, rfl, ⟨xs, hx⟩, k2, fun H3 => SqT X.K H3 t xs ∧ RpA X.K H3 xs ds, fun H3 k3 => ⟨k3.t hx, k3.ra rs⟩, ?_⟩
  rw [← rs.len]
  refine walk_tup.mono (fun H3 z => z.1) fun i H3 x H4 hi z y => ?_
  obtain ⟨rfl, y⟩ := y
  obtain ⟨d, hd, r⟩ := z.2.at' y
  exact ⟨Kp.refl _, d, hd, r⟩
theorem src_list {R : V → Hp → Prop} (h : De X iter σ H R) (hR : ∀ v H2, R v H2 → ∃ l, v = .ref l ∧ RL X.K H2 l ds ∧ l ∉ M) : Src M X tg iter σ H ds := fun H1 k => wI_of (pi_list wE_pe) <| wE_mono (h H1 k) fun v H2 ⟨k2, r⟩ => by
  obtain ⟨t, rfl, ⟨xs, hx, rs⟩, hM⟩ := hR v H2 r
  refine ⟨t, rfl, ⟨xs, .of hx⟩, k2, fun H3 => SqL X.K H3 t xs ∧ RpA X.K H3 xs ds, fun H3 k3 => ⟨.of (k3.l hx hM), k3.ra rs⟩, ?_⟩
  rw [← rs.len]
  refine walk_list.mono (fun H3 z => z.1) fun i H3 x H4 hi z y => ?_
  obtain ⟨rfl, y⟩ := y
  obtain ⟨d, hd, r⟩ := z.2.at' y
  exact ⟨Kp.refl _, d, hd, r⟩
theorem src_new (h : DL X iter σ H ds) : Src [] X tg iter σ H ds := src_list h fun v H2 ⟨l, e, _, r⟩ => ⟨l, e, r, by simp⟩
theorem src_old {l : Addr} (h : De X iter σ H fun v H2 => v = .ref l ∧ RL X.K H2 l ds) : Src [] X tg iter σ H ds := src_list h fun v H2 ⟨e, r⟩ => ⟨l, e, r, by simp⟩
theorem src_range {n : Nat} (h : DD X a σ H (.int (n : Int))) (hn : n ≤ 100000) (hm : X.mg "range" = none) (hg : Gl X "range" := by rfl) (he : starEach [a] X.env = (false, eval a X.env) :: starEach [] X.env := by rfl) (he2 : starEach [a] X.env = [(false, eval a X.env)] := by rfl) : Src M X tg (.Call (.Name "range" p) [a] [] pos) σ H (dI (upto n)) := fun H1 k =>
  wI_of (pi_range1 hg hm (pa_cons wE_pe pa_nil he) he2) <| wE_mono (h H1 k) fun v H2 ⟨k2, r⟩ => by
  refine ⟨(n : Int), by rw [r.i], by omega, by omega, k2, fun _ => True, fun _ _ => trivial, ?_⟩
  rw [List.length_map, upto_len]
  refine (walk_range (lo := 0) (n := n)).mono (fun _ z => z) fun i H3 x H4 hi z y => ?_
  obtain ⟨rfl, rfl⟩ := y
  refine ⟨Kp.refl _, .int (i : Int), ?_, by show Rp X.K _ (V.int (0 + (i : Int))) _; rw [Int.zero_add]; exact .int _⟩
  unfold dI upto
  rw [List.map_map, List.getElem?_map, List.getElem?_range hi]
  rfl
/-- (i, item) -/
def pairs (ds : List Da) : List Da := ds.mapIdx fun i d => .tuple [.int (i : Int), d]
theorem src_enum {elts : List Expr} {kk : Nat} {tpos : Pos} (h : DD X a σ H (.tuple ds)) (hm : X.mg "enumerate" = none) (hg : Gl X "enumerate" := by rfl) (he : starEach [a] X.env = (false, eval a X.env) :: starEach [] X.env := by rfl) (he2 : starEach [a] X.env = [(false, eval a X.env)] := by rfl) : Src M X (.Tuple elts kk tpos) (.Call (.Name "enumerate" p) [a] [] pos) σ H (pairs ds) :=
  fun H1 k => wI_of (pi_enumT hg hm (pa_cons wE_pe pa_nil he) he2) <| wE_mono (h H1 k) fun v H2 ⟨k2, r⟩ => by
  obtain ⟨t, xs, rfl, hx, rs⟩ := r.t
  refine ⟨t, xs, rfl, hx, k2, fun H3 => SqT X.K H3 t xs ∧ RpA X.K H3 xs ds, fun H3 k3 => ⟨k3.t hx, k3.ra rs⟩, ?_⟩
  have el : (pairs ds).length = xs.length := by rw [rs.len]; simp [pairs]
  refine ⟨fun i H3 hi z => ⟨xs, xs[i]'(by omega), z.1, by simp [show i < xs.length by omega]⟩, fun H3 z => ⟨xs, z.1, el.symm⟩, fun i H3 x H4 hi z y => ?_⟩
  obtain ⟨T, y1, rfl, hT, rfl, hy⟩ := y
  obtain ⟨d, hd, r1⟩ := z.2.at' (hy xs z.1)
  refine ⟨Kp.new hT, .tuple [.int (i : Int), d], ?_, .tup (.inl (.inl upd_same)) (.cons (.int _) (.cons ((Kp.new (M := []) hT).r r1) .nil))⟩
  unfold pairs
  rw [List.getElem?_mapIdx, hd]
  rfl

/-! ### comprehensions -/
theorem take_step {α : Type} (ds : List Da) (t : Da → Bool) (f : Da → α) (i : Nat) (d : Da) (hd : ds[i]? = some d) : ((ds.take (i + 1)).filter t).map f = ((ds.take i).filter t).map f ++ (if t d = true then [f d] else []) := by
  rw [List.take_add_one, hd, List.filter_append, List.map_append]
  congr 1
  show (([d] : List Da).filter t).map f = _
  rw [List.filter_cons]
  split <;> rfl
theorem comp_core {ifs : List Expr} {scope : Scope} {own : List (Str × Nat)} {g : TG} {tt : TT} {te : TE} (t : Da → Bool) (f : Da → Da) (S : Src [] X tg iter σ H ds) (hc : X.calm = true) (hN : X.N.Nodup) (ok : BlkOk X.N X.env.scope scope own)
    (hg : ∀ (s : Shared) (H : Hp) (C : Addr) (cl : List (Str × Addr)) (fp : List Addr), PG (X.blk s H scope (compEnvC scope cl C X.env) fp) tg g) (ht : ∀ (s : Shared) (H : Hp) (C : Addr) (cl : List (Str × Addr)) (fp : List Addr), PTs (X.blk s H scope (compEnvC scope cl C X.env) fp) ifs tt)
    (he : ∀ (s : Shared) (H : Hp) (C : Addr) (cl : List (Str × Addr)) (fp : List Addr), PE (X.blk s H scope (compEnvC scope cl C X.env) fp) elt te) (hs : ∀ x, foldedSetIterable iter X.env x = pure x) (hl : ds.length ≤ 50000)
    (go : ∀ d v H1 (Nx : L2.St → Hp → Prop), d ∈ ds → Kp [] H H1 → Rp X.K H1 v d → (∀ σ2 H2, Kp [] H1 H2 → wipe σ2 (own.map (·.2)) = wipe σ (own.map (·.2)) → (∀ Q : Bool → Hp → Prop, (∀ H3, Kp [] H2 H3 → Q (t d) H3) → tt σ2 H2 Q) →
      (t d = true → ∀ H3, Kp [] H2 H3 → ∀ Q : VK, (∀ y H4, Kp [] H3 H4 → Rp X.K H4 y (f d) → Q y H4) → te σ2 H3 Q) → Nx σ2 H2) → g v (wipe σ (own.map (·.2))) H1 Nx) :
    ∀ H1, Kp [] H H1 → tLc (wI X tg iter) g tt te (own.map (·.2)) σ H1 fun v H2 => Kp [] H1 H2 ∧ ∃ p, v = .ref p ∧ H p = none ∧ RL X.K H2 p ((ds.filter t).map f) := by
  intro H1 k1
  refine wI_mono (S H1 k1) fun J H2 ⟨k2, G, hG, W⟩ D hD => ?_
  have hD1 : H1 D = none := k2.fresh hD
  refine lc_it W (fun i H3 => Kp [] H2 H3 ∧ ∃ acc, H3 D = some (.lst acc) ∧ RpA X.K H3 acc (((ds.take i).filter t).map f)) ⟨Kp.new hD, [], upd_same, .nil⟩ (fun i H3 _ z => hG H3 z.1) (fun i x H3 H4 hi z y => ?_) fun H3 z => ?_
  · obtain ⟨k3, acc, ha, rs⟩ := z
    obtain ⟨k4, d, hd, r⟩ := y
    refine go d x H4 _ (List.mem_of_getElem? hd) ((k1.trans k2).trans (k3.trans k4)) r fun σ2 H5 k5 hw htt hte => ⟨hw, htt _ fun H6 k6 => ?_⟩
    have k46 := (k4.trans k5).trans k6
    by_cases q : t d = true
    · rw [if_pos q]
      refine hte q H6 k6 _ fun y H7 k7 ry => ⟨acc, (k46.trans k7).l ha, ?_, ((k3.trans (k46.trans k7))).close ((Kp.refl _).trans (Kp.wr ((k46.trans k7).l ha) trivial (List.mem_singleton.mpr rfl))) hD, acc ++ [y], upd_same, ?_⟩
      · have e := rs.len
        rw [List.length_map] at e
        have e2 := List.length_filter_le t (ds.take i)
        rw [List.length_take] at e2
        exact Nat.lt_of_le_of_lt (show acc.length ≤ 50000 by omega) (by decide)
      · rw [take_step ds t f i d hd, if_pos q]
        have kw : Kp [D] H7 (upd H7 D (.lst (acc ++ [y]))) := Kp.wr ((k46.trans k7).l ha) trivial (List.mem_singleton.mpr rfl)
        exact (kw.ra ((k46.trans k7).ra rs)).snoc (kw.r ry)
    · rw [if_neg q]
      refine ⟨k3.trans k46, acc, k46.l ha, ?_⟩
      rw [take_step ds t f i d hd, if_neg q, List.append_nil]
      exact k46.ra rs
  · obtain ⟨k3, acc, ha, rs⟩ := z
    rw [List.take_of_length_le (Nat.le_refl _)] at rs
    exact ⟨k2.trans k3, D, rfl, k1.fresh hD1, acc, ha, rs⟩
/-- the same term in every block -/
def uE (X : Cx) (scope : Scope) (e : Expr) : TE := fun σ H Q => ∀ (s : Shared) (H0 : Hp) (C : Addr) (cl : List (Str × Addr)) (fp : List Addr), wE (X.blk s H0 scope (compEnvC scope cl C X.env) fp) e σ H Q
def uT (X : Cx) (scope : Scope) (e : Expr) : TT := fun σ H Q => ∀ (s : Shared) (H0 : Hp) (C : Addr) (cl : List (Str × Addr)) (fp : List Addr), wT (X.blk s H0 scope (compEnvC scope cl C X.env) fp) e σ H Q
/-- [elt for x in iter] -/
theorem dl_map {scope : Scope} {own : List (Str × Nat)} {n : Nat} (f : Da → Da) (S : Src [] X (.Name x px) iter σ H ds) (hN : X.N.Nodup) (ok : BlkOk X.N X.env.scope scope own)
    (hg : ∀ (s : Shared) (H : Hp) (C : Addr) (cl : List (Str × Addr)) (fp : List Addr), PG (X.blk s H scope (compEnvC scope cl C X.env) fp) (.Name x px) (gName n))
    (el : ∀ d v H1, d ∈ ds → Kp [] H H1 → Rp X.K H1 v d → ∀ (s : Shared) (H0 : Hp) (C : Addr) (cl : List (Str × Addr)) (fp : List Addr), DD (X.blk s H0 scope (compEnvC scope cl C X.env) fp) elt ((wipe σ (own.map (·.2))).set n (some v)) H1 (f d))
    (hl : ds.length ≤ 50000) (hw : ∀ v, wipe ((wipe σ (own.map (·.2))).set n (some v)) (own.map (·.2)) = wipe σ (own.map (·.2)) := by intro _; rfl) (hc : X.calm = true := by rfl) (hs : ∀ x, foldedSetIterable iter X.env x = pure x := by intro _; rfl) : DL X (.ListComp elt [⟨.Name x px, iter, [], 0⟩] scope pos) σ H (ds.map f) :=
  .of (pe_lc hc hN wI_pi ok hg (fun _ _ _ _ _ => pts_nil) (te := uE X scope elt) (fun s H0 C cl fp => ⟨fun pins s' σ' H' Q I h => h s H0 C cl fp pins s' I⟩) hs) (by
    have := comp_core (g := gName n) (tt := tYes) (te := uE X scope elt) (fun _ => true) f S hc hN ok hg (fun _ _ _ _ _ => pts_nil) (fun s H0 C cl fp => ⟨fun pins s' σ' H' Q I h => h s H0 C cl fp pins s' I⟩) hs hl fun d v H1 Nx hd k1 r nx => nx _ H1 (Kp.refl _) (hw v) (fun Q q => q H1 (Kp.refl _)) fun _ H3 k3 Q q s H0 C cl fp =>
      wE_mono (el d v H1 hd k1 r s H0 C cl fp H3 k3) fun y H4 z => q y H4 z.1 z.2
    rw [show ds.filter (fun _ => true) = ds from List.filter_eq_self.mpr fun _ _ => rfl] at this
    exact this)
/-- [elt for x in iter if test] -/
theorem dl_filter {scope : Scope} {own : List (Str × Nat)} {n : Nat} {test : Expr} (t : Da → Bool) (f : Da → Da) (S : Src [] X (.Name x px) iter σ H ds) (hN : X.N.Nodup) (ok : BlkOk X.N X.env.scope scope own)
    (hg : ∀ (s : Shared) (H : Hp) (C : Addr) (cl : List (Str × Addr)) (fp : List Addr), PG (X.blk s H scope (compEnvC scope cl C X.env) fp) (.Name x px) (gName n))
    (te : ∀ d v H1, d ∈ ds → Kp [] H H1 → Rp X.K H1 v d → ∀ (s : Shared) (H0 : Hp) (C : Addr) (cl : List (Str × Addr)) (fp : List Addr), Dt (X.blk s H0 scope (compEnvC scope cl C X.env) fp) test ((wipe σ (own.map (·.2))).set n (some v)) H1 (t d))
    (el : ∀ d v H1, d ∈ ds → t d = true → Kp [] H H1 → Rp X.K H1 v d → ∀ (s : Shared) (H0 : Hp) (C : Addr) (cl : List (Str × Addr)) (fp : List Addr), DD (X.blk s H0 scope (compEnvC scope cl C X.env) fp) elt ((wipe σ (own.map (·.2))).set n (some v)) H1 (f d))
    (hl : ds.length ≤ 50000) (hw : ∀ v, wipe ((wipe σ (own.map (·.2))).set n (some v)) (own.map (·.2)) = wipe σ (own.map (·.2)) := by intro _; rfl) (hc : X.calm = true := by rfl) (hs : ∀ x, foldedSetIterable iter X.env x = pure x := by intro _; rfl) :
    DL X (.ListComp elt [⟨.Name x px, iter, [test], 0⟩] scope pos) σ H ((ds.filter t).map f) :=
  .of (pe_lc hc hN wI_pi ok hg (fun s H0 C cl fp => pts_one (t := uT X scope test) ⟨fun pins s' σ' H' Q I h => h s H0 C cl fp pins s' I⟩) (te := uE X scope elt) (fun s H0 C cl fp => ⟨fun pins s' σ' H' Q I h => h s H0 C cl fp pins s' I⟩) hs)
    (comp_core (g := gName n) (tt := uT X scope test) (te := uE X scope elt) t f S hc hN ok hg (fun s H0 C cl fp => pts_one (t := uT X scope test) ⟨fun pins s' σ' H' Q I h => h s H0 C cl fp pins s' I⟩) (fun s H0 C cl fp => ⟨fun pins s' σ' H' Q I h => h s H0 C cl fp pins s' I⟩) hs hl fun d v H1 Nx hd k1 r nx => nx _ H1 (Kp.refl _) (hw v)
      (fun Q q s H0 C cl fp => wT_mono (te d v H1 hd k1 r s H0 C cl fp H1 (Kp.refl _)) fun b H3 z => by rw [z.2]; exact q H3 z.1) fun hq H3 k3 Q q s H0 C cl fp => wE_mono (el d v H1 hd hq k1 r s H0 C cl fp H3 k3) fun y H4 z => q y H4 z.1 z.2)
/-- [elt for x, y in iter] over pairs -/
theorem dl_pairs {scope : Scope} {own : List (Str × Nat)} {n m : Nat} {tes : List Expr} {kk : Nat} (f : Da → Da) (S : Src [] X (.Tuple tes kk px) iter σ H ds) (hN : X.N.Nodup) (ok : BlkOk X.N X.env.scope scope own)
    (hg : ∀ (s : Shared) (H : Hp) (C : Addr) (cl : List (Str × Addr)) (fp : List Addr), PG (X.blk s H scope (compEnvC scope cl C X.env) fp) (.Tuple tes kk px) (gTup X.K 2 (gCons (gName n) (gCons (gName m) gNil))))
    (two : ∀ d ∈ ds, ∃ d1 d2, d = .tuple [d1, d2])
    (el : ∀ d1 d2 v1 v2 H1, .tuple [d1, d2] ∈ ds → Kp [] H H1 → Rp X.K H1 v1 d1 → Rp X.K H1 v2 d2 → ∀ (s : Shared) (H0 : Hp) (C : Addr) (cl : List (Str × Addr)) (fp : List Addr), DD (X.blk s H0 scope (compEnvC scope cl C X.env) fp) elt (((wipe σ (own.map (·.2))).set n (some v1)).set m (some v2)) H1 (f (.tuple [d1, d2])))
    (hl : ds.length ≤ 50000) (hw : ∀ v1 v2, wipe (((wipe σ (own.map (·.2))).set n (some v1)).set m (some v2)) (own.map (·.2)) = wipe σ (own.map (·.2)) := by intro _ _; rfl) (hc : X.calm = true := by rfl) (hs : ∀ x, foldedSetIterable iter X.env x = pure x := by intro _; rfl) : DL X (.ListComp elt [⟨.Tuple tes kk px, iter, [], 0⟩] scope pos) σ H (ds.map f) :=
  .of (pe_lc hc hN wI_pi ok hg (fun _ _ _ _ _ => pts_nil) (te := uE X scope elt) (fun s H0 C cl fp => ⟨fun pins s' σ' H' Q I h => h s H0 C cl fp pins s' I⟩) hs) (by
    have := comp_core (g := gTup X.K 2 (gCons (gName n) (gCons (gName m) gNil))) (tt := tYes) (te := uE X scope elt) (fun _ => true) f S hc hN ok hg (fun _ _ _ _ _ => pts_nil) (fun s H0 C cl fp => ⟨fun pins s' σ' H' Q I h => h s H0 C cl fp pins s' I⟩) hs hl fun d v H1 Nx hd k1 r nx => by
      obtain ⟨d1, d2, rfl⟩ := two d hd
      obtain ⟨t, xs, rfl, hx, rs⟩ := r.t
      cases rs with
      | cons r1 rs =>
        cases rs with
        | cons r2 rs =>
          cases rs
          exact ⟨t, _, rfl, hx, rfl, _, _, rfl, _, _, rfl, rfl, nx _ H1 (Kp.refl _) (hw _ _) (fun Q q => q H1 (Kp.refl _)) fun _ H3 k3 Q q s H0 C cl fp => wE_mono (el d1 d2 _ _ H1 hd k1 r1 r2 s H0 C cl fp H3 k3) fun y H4 z => q y H4 z.1 z.2⟩
    rw [show ds.filter (fun _ => true) = ds from List.filter_eq_self.mpr fun _ _ => rfl] at this
    exact this)

/-! ### statements -/
theorem s_for {D : Ends} {g : TG} {body : List Stmt} (Pv : Nat → L2.St → Hp → Prop) (S : Src M X tg iter σ H ds) (hg : PG X tg g) (h0 : ∀ H1, Kp [] H H1 → Pv 0 σ H1)
    (hs : ∀ i d v σ' H3 H4, ds[i]? = some d → Kp M H H3 → Pv i σ' H3 → Kp [] H3 H4 → Rp X.K H4 v d → g v σ' H4 fun σ2 H2 => wB X body { D with nx := fun σ5 H5 => Kp M H4 H5 ∧ Pv (i + 1) σ5 H5, ct := fun σ5 H5 => Kp M H4 H5 ∧ Pv (i + 1) σ5 H5, bk := D.nx } σ2 H2)
    (hd : ∀ σ' H3, Kp M H H3 → Pv ds.length σ' H3 → D.nx σ' H3) (hp : PassesOwn (model X.prog X.w) X.A X.env X.xe := by exact PassesOwn.never) (hc : X.calm = true := by rfl) (hf : ∀ x, foldedSetIterable iter X.env x = pure x := by intro _; rfl) (hgM : ∀ v σ H (Q Q' : L2.St → Hp → Prop), g v σ H Q → (∀ σ' H', Q σ' H' → Q' σ' H') → g v σ H Q' := by intro v σ H Q Q' h m; exact m _ _ h) : wS X (.For tg iter body [] pos) D σ H := by
  refine wS_of (ps_for hp hc wI_pi hg wB_ps hf) (wI_mono (S H (Kp.refl H)) fun J H2 ⟨k2, G, hG, W⟩ => ?_)
  refine for_it W (fun i σ' H3 => Kp M H2 H3 ∧ Pv i σ' H3) ⟨Kp.refl _, h0 H2 k2⟩ (fun i σ' H3 _ z => hG H3 z.1) (fun i x σ' H3 H4 hi z y => ?_) fun σ' H3 z => hd σ' H3 (k2.to.trans z.1) z.2
  obtain ⟨k4, d, hd', r⟩ := y
  refine hgM _ _ _ _ _ (hs i d x σ' H3 H4 hd' (k2.to.trans z.1) z.2 k4 r) fun σ2 H5 h5 => ?_
  exact wB_mono h5 ⟨fun σ6 H6 q => ⟨z.1.trans (k4.to.trans q.1), q.2⟩, fun _ _ q => q, fun _ _ q => q, fun σ6 H6 q => ⟨z.1.trans (k4.to.trans q.1), q.2⟩⟩
theorem s_set (n : Nat) {D : Ends} {px' : Pos} (h : wE X e σ H fun v H1 => D.nx (σ.set n (some v)) H1) (hN : X.N.Nodup) (hi : X.N[n]? = some x := by rfl) (hx : Loc X.env.scope x := by first | exact Or.inl rfl | exact Or.inr rfl) (hs : swapsWith e (some (.Name x px')) pos.line X.env = pure false := by rfl)
    (hf : X.fn x = true ∨ X.env.scope.names.lookup x = some .local := by first | exact .inl rfl | exact .inr rfl) : wS X (.Assign [.Name x px'] e pos) D σ H := wS_of (ps_set hN hi hx wE_pe hs hf) h
theorem s_ret {D : Ends} (h : wE X e σ H D.rt) : wS X (.Return (some e) pos) D σ H := wS_of (ps_ret wE_pe) h
theorem s_retD {D : Ends} {H0 : Hp} (k0 : Kp [] H0 H) (h : DD X e σ H d) (hD : D.rt = Ret X.K H0 d := by rfl) : wS X (.Return (some e) pos) D σ H := s_ret (h.go fun v H1 k r => by rw [hD]; exact ⟨k0.trans k, r⟩)
theorem s_ifT {D : Ends} {s1 s2 : List Stmt} (hc : Dt X c σ H true) (h : ∀ H1, Kp [] H H1 → wB X s1 D σ H1) : wS X (.If c s1 s2 pos) D σ H := wS_of (ps_if wT_pt wB_ps wB_ps) (hc.go fun H1 k => by rw [if_pos rfl]; exact h H1 k)
theorem s_ifF {D : Ends} {s1 s2 : List Stmt} (hc : Dt X c σ H false) (h : ∀ H1, Kp [] H H1 → wB X s2 D σ H1) : wS X (.If c s1 s2 pos) D σ H := wS_of (ps_if wT_pt wB_ps wB_ps) (hc.go fun H1 k => by rw [if_neg Bool.false_ne_true]; exact h H1 k)
theorem s_if {D : Ends} {s1 s2 : List Stmt} {q : Bool} (hc : Dt X c σ H q) (h1 : q = true → ∀ H1, Kp [] H H1 → wB X s1 D σ H1) (h2 : q = false → ∀ H1, Kp [] H H1 → wB X s2 D σ H1) : wS X (.If c s1 s2 pos) D σ H := by
  cases q with
  | true => exact s_ifT hc (h1 rfl)
  | false => exact s_ifF hc (h2 rfl)
theorem s_expr {D : Ends} (h : wE X e σ H fun _ H1 => D.nx σ H1) (hs : swapsWith e none pos.line X.env = pure false := by rfl) : wS X (.Expr e pos) D σ H := wS_of (ps_expr wE_pe hs) h
/-- l.append(e) -/
theorem s_append {D : Ends} {a : Expr} {l : Addr} {apos cpos : Pos} {xs : List V} (ho : De X a σ H fun v _ => v = .ref l) (hl : H l = some (.lst xs)) (hz : xs.length ≤ 100000) (he : ∀ H1, Kp [] H H1 → wE X e σ H1 fun v H2 => H2 l = some (.lst xs) ∧ D.nx σ (upd H2 l (.lst (xs ++ [v]))))
    (hbase : attributeBase a "append" X.env (eval a X.env) = eval a X.env := by rfl)
    (hfew : ((backTo cpos (starEach [e] X.env)).all (fun x => !x.1) && (backToKw cpos (keywordEach [] X.env)).all (fun x => x.1.isSome) && decide ([e].length + ([] : List Keyword).length + (if ([] : List Keyword).isEmpty then 0 else 1) < 30)) = true := by rfl)
    (hline : (apos.endLine == cpos.line) = true := by rfl) (hs : starEach [e] X.env = (false, eval e X.env) :: starEach [] X.env := by rfl) (hpl : (backTo cpos (starEach [] X.env)).any (·.1) = false := by rfl)
    (hsw : swapsWith (.Call (.Attribute a "append" apos) [e] [] cpos) none pos.line X.env = pure false := by rfl) : wS X (.Expr (.Call (.Attribute a "append" apos) [e] [] cpos) pos) D σ H :=
  wS_of (ps_expr (pe_bm PySem.F.plainAttrs_list PySem.F.slot_list_append PySem.F.type_list_append mt_append wE_pe (pa_cons wE_pe pa_nil hs) hbase hfew hline hs hpl) hsw) <| ho.go fun v H1 k r => by
    subst r
    exact ⟨.inl ⟨rfl, _, .of (k.l hl)⟩, wE_mono (he H1 k) fun v H2 q => ⟨l, xs, v, rfl, rfl, q.1, Nat.lt_of_le_of_lt hz (by decide), q.2⟩⟩
/-- t1, t2, .. = e -/
theorem s_unpack {D : Ends} {g : TG} (h : wE X e σ H fun v H1 => g v σ H1 D.nx) (hg : PG X tg g) (hs : swapsWithSole [tg] e pos.line X.env = pure false := by rfl) (hw : swappedStores [tg] e X.env = pure none := by rfl) (h1 : (assignEach [tg] X.env).map (·.2) = [assign tg X.env] := by rfl) : wS X (.Assign [tg] e pos) D σ H :=
  wS_of (ps_asg wE_pe hg hs hw h1) h
end
end G28
namespace G28
open PySem PySem.Spec PyProof.Rows L2
open NdefX (NF FnO NOk CellsAt nok_of nscope_by TabN TabsN)
open LamX (CodeO TabB ExtN)
variable [Tb]
/-! ### a function that leaves the def that made it: its cells, known for good -/
def extT : HO := .ext fun _ => True
structure Clo (H : Hp) (cl : List (Str × Addr)) (fr : List Str) (ws : List V) : Prop where
  len : ws.length = fr.length
  inj : ∀ x y c, cl.lookup x = some c → cl.lookup y = some c → x = y
  all : ∀ y c, cl.lookup y = some c → ∃ o v, H c = some (.frz o extT) ∧ o.data = .cell v
  has : ∀ (i : Nat) (y : Str), fr[i]? = some y → ∃ c, cl.lookup y = some c ∧ ∀ w, ws[i]? = some w → ∃ o u, H c = some (.frz o extT) ∧ o.data = .cell (some u) ∧ L2.RelV w u
theorem Clo.up {M : List Addr} {H H' : Hp} {cl : List (Str × Addr)} {fr : List Str} {ws : List V} (k : Kp M H H') (c : Clo H cl fr ws) : Clo H' cl fr ws :=
  ⟨c.len, c.inj, fun y a e => let ⟨o, v, h, d⟩ := c.all y a e; ⟨o, v, k.frz _ _ _ h, d⟩, fun i y e => let ⟨a, h1, h2⟩ := c.has i y e; ⟨a, h1, fun w hw => let ⟨o, u, h, d, r⟩ := h2 w hw; ⟨o, u, k.frz _ _ _ h, d, r⟩⟩⟩
def InC (cl : List (Str × Addr)) (b : Addr) : Prop := ∃ y, cl.lookup y = some b
open Classical in
/-- the heap without the cells -/
noncomputable def hid (cl : List (Str × Addr)) (H : Hp) : Hp := fun b => if InC cl b then none else H b
open Classical in
/-- .. with them again -/
noncomputable def shw (cl : List (Str × Addr)) (H0 H : Hp) : Hp := fun b => if InC cl b then H0 b else H b
section
variable {cl : List (Str × Addr)} {H H0 H' : Hp} {b : Addr}
theorem hid_in (h : InC cl b) : hid cl H b = none := if_pos h
theorem hid_out (h : ¬ InC cl b) : hid cl H b = H b := if_neg h
theorem shw_in (h : InC cl b) : shw cl H0 H b = H0 b := if_pos h
theorem shw_out (h : ¬ InC cl b) : shw cl H0 H b = H b := if_neg h
theorem hid_some {o : HO} (h : hid cl H b = some o) : ¬ InC cl b ∧ H b = some o := by
  by_cases z : InC cl b
  · rw [hid_in z] at h
    cases h
  · exact ⟨z, by rw [hid_out z] at h; exact h⟩
theorem not_cell {o : HO} {fr : List Str} {ws : List V} (C : Clo H cl fr ws) (h : H b = some o) (n : ∀ ob, o ≠ .frz ob extT) : ¬ InC cl b := fun ⟨y, e⟩ => by
  obtain ⟨ob, v, q, _⟩ := C.all y b e
  rw [h] at q
  exact n ob (Option.some.inj q)
theorem extT_ne (xs : List V) : HO.tup xs ≠ extT := fun z => by
  unfold extT at z
  cases z
theorem sqT_hid {K : PySem.W.Frag} {fr : List Str} {ws : List V} (C : Clo H cl fr ws) {a : Addr} {xs : List V} (h : SqT K H a xs) : SqT K (hid cl H) a xs := by
  rcases h with (h | ⟨o, h⟩) | h
  · exact .inl (.inl (by rw [hid_out (not_cell C h fun _ z => by cases z)]; exact h))
  · refine .inl (.inr ⟨o, ?_⟩)
    rw [hid_out (not_cell C h fun ob z => ?_)]
    · exact h
    · have z2 : HO.tup xs = extT := (HO.frz.inj z).2
      exact extT_ne xs z2
  · exact .inr h
theorem Rp.hide {K : PySem.W.Frag} {fr : List Str} {ws : List V} (C : Clo H cl fr ws) : ∀ {vs : List V} {ds : List Da}, RpA K H vs ds → RpA K (hid cl H) vs ds := by
  have key : ∀ d : Da, ∀ v, Rp K H v d → Rp K (hid cl H) v d := by
    intro d
    refine Da.rec (motive_1 := fun d => ∀ v, Rp K H v d → Rp K (hid cl H) v d) (motive_2 := fun ds => ∀ vs, RpA K H vs ds → RpA K (hid cl H) vs ds) ?_ ?_ ?_ ?_ ?_ ?_ ?_ d
    · intro v r
      cases r
      exact .non
    · intro b v r
      cases r
      exact .bl b
    · intro i v r
      cases r
      exact .int i
    · intro ds ih v r
      obtain ⟨a, xs, rfl, hx, rs⟩ := r.t
      exact .tup (sqT_hid C hx) (ih xs rs)
    · intro ns v r
      obtain ⟨a, o, rfl, h, hd⟩ := r.w
      refine .row (o := o) ?_ hd
      rw [hid_out (not_cell C h fun ob z => extT_ne _ (HO.frz.inj z).2)]
      exact h
    · intro vs r
      cases r
      exact .nil
    · intro d ds ih1 ih2 vs r
      cases r with
      | cons r1 r2 => exact .cons (ih1 _ r1) (ih2 _ r2)
  intro vs ds r
  induction r using RpA.rec (motive_1 := fun _ _ _ => True) with
  | non => trivial
  | bl _ => trivial
  | int _ => trivial
  | tup _ _ _ => trivial
  | row _ _ => trivial
  | nil => exact .nil
  | cons r1 r2 _ ih => exact .cons (key _ _ r1) ih
theorem TabN.hide {fr : List Str} {ws : List V} (C : Clo H cl fr ws) (t : TabOk H) : TabOk (hid cl H) := by
  obtain ⟨ps, h1, h2, h3⟩ := t
  refine ⟨ps, by rw [hid_out (not_cell C h1 fun _ z => by cases z)]; exact h1, h2, fun pos cv hc => ?_⟩
  obtain ⟨c, e1, e2⟩ := h3 pos cv hc
  refine ⟨c, e1, ?_⟩
  rw [hid_out (not_cell C e2 fun _ z => by unfold CodeO at z; cases z)]
  exact e2
theorem Kp.show_ {fr : List Str} {ws : List V} (C : Clo H cl fr ws) (k : Kp [] (hid cl H) H') (free : ∀ b, InC cl b → H' b = none) : Kp [] H (shw cl H H') := by
  have up : ∀ b o, H b = some o → (∀ ps, o ≠ .tbl ps) → shw cl H H' b = some o := fun b o h n => by
    by_cases z : InC cl b
    · rw [shw_in z]
      exact h
    · rw [shw_out z]
      exact k.keep b o (by rw [hid_out z]; exact h) (by simp) n
  refine ⟨fun b o h _ n => up b o h n, fun b xs h => up b _ h (fun _ z => by cases z), fun b o u h => up b _ h (fun _ z => by cases z), fun b h => ?_, fun t => ?_⟩
  · by_cases z : InC cl b
    · rw [shw_in z] at h
      exact h
    · rw [shw_out z] at h
      have q := k.back b h
      rw [hid_out z] at q
      exact q
  · obtain ⟨ps, h1, h2, h3⟩ := k.tabs (TabN.hide C t)
    have nf : ∀ {b : Addr} {o : HO}, H' b = some o → ¬ InC cl b := fun {b o} h z => by
      rw [free b z] at h
      cases h
    refine ⟨ps, by rw [shw_out (nf h1)]; exact h1, h2, fun pos cv hc => ?_⟩
    obtain ⟨c, e1, e2⟩ := h3 pos cv hc
    exact ⟨c, e1, by rw [shw_out (nf e2)]; exact e2⟩
end
section
variable {X : Cx} {pins : List (Addr × Obj)} {σ : L2.St} {H : Hp} {s : Shared} {F : NF} {f : Addr} {ps fr : List Str} {ws vs : List V} {us : List Value} {k j : Nat} {sp : List (Option V) → Sp} {Q : VK}
/-- the call of such a function -/
theorem run_esc (Fn : NOk X.prog X.w X.K X.mg X.base CX0 k f F ps fr sp) (hr : Room j X.A) (hk : k ≤ j) (I : Inv X pins σ H s) (hf : H f = some (FnO f F)) (hc : H F.c = some (CodeO F.c F.qual)) (C : Clo H F.cl fr ws) (r : Vals vs us)
    (q : sp (ws.map some) vs (hid F.cl H) (fun v H' => (∀ b, InC F.cl b → H' b = none) → Q v (shw F.cl H H')) E0) : wpAny (model X.prog X.w) X.A (call (.ref f) us) (EP X pins σ Q) X.xe s := by
  have cellO : ∀ {b : Addr}, InC F.cl b → ∃ o v, H b = some (.frz o extT) ∧ o.data = .cell v ∧ s.heap.get? b = some o := fun {b} ⟨y, e⟩ => by
    obtain ⟨o, v, h, d⟩ := C.all y b e
    exact ⟨o, v, h, d, (I.hok b _ h).1⟩
  have hok : HOk X.prog X.w (hid F.cl H) s.heap := fun b o e => by
    obtain ⟨_, e2⟩ := hid_some e
    exact (I.hok b o e2).stay (fun _ _ _ z => z) (fun c z => by rw [hid_out (not_cell C z fun _ z => by cases z)]; exact z) fun c xs z => by rw [hid_out (not_cell C z fun _ z => by cases z)]; exact z
  have none_ : ∀ {b : Addr}, H b = none → hid F.cl H b = none := fun {b} h => by
    by_cases z : InC F.cl b
    · exact hid_in z
    · rw [hid_out z]
      exact h
  have e0 : Env0 X.prog X.w X.K X.mg X.base X.A X.stack s (hid F.cl H) := by
    have e := I.env0
    exact ⟨e.frames, e.mod, fun b o h => ⟨(e.bs b o h).1, none_ (e.bs b o h).2⟩, e.bsz, e.funs, fun b h => none_ (e.frf b h), hok, e.bare⟩
  have CA : CellsAt F.cl fr (ws.map some) s.heap (hid F.cl H) := by
    refine ⟨by rw [List.length_map]; exact C.len, fun y c e => ?_, C.inj, fun i y e => ?_⟩
    · obtain ⟨o, v, h, d, g⟩ := cellO ⟨y, e⟩
      exact ⟨hid_in ⟨y, e⟩, v, o, g, d⟩
    · obtain ⟨c, h1, h2⟩ := C.has i y e
      refine ⟨c, h1, fun v hv => ?_⟩
      rw [List.getElem?_map] at hv
      cases hw : ws[i]? with
      | none => rw [hw] at hv; cases hv
      | some w =>
        rw [hw] at hv
        have ew : w = v := Option.some.inj (Option.some.inj hv)
        subst ew
        obtain ⟨o, u, h, d, rv⟩ := h2 w hw
        exact ⟨u, rv, o, (I.hok c _ h).1, d⟩
  refine wpAny_call (codeAny_mono (Fn.run X.A X.stack s (hid F.cl H) us vs (ws.map some) _ E0 (hr.mono hk) e0 (by rw [hid_out (not_cell C hf fun _ z => by unfold FnO at z; cases z)]; exact hf) (by rw [hid_out (not_cell C hc fun _ z => by unfold CodeO at z; cases z)]; exact hc) CA r q) fun rs s' hq => ?_)
  cases rs with
  | error e => exact (show False from hq).elim
  | ok fl =>
    cases fl with
    | next => exact False.elim hq
    | brk => exact False.elim hq
    | cont => exact False.elim hq
    | ret u =>
      obtain ⟨v, H', os, bare, un, hok', rv, qv⟩ := hq
      have free : ∀ b, InC F.cl b → H' b = none := fun b z => by
        obtain ⟨o, _, _, _, g⟩ := cellO z
        exact un.free b o g (hid_in z) (by simp)
      have keep : ∀ b o, InC F.cl b → s.heap.get? b = some o → s'.heap.get? b = some o := fun b o z g => by
        refine un.keep b o g (hid_in z) (fun hb => ?_) (by simp)
        obtain ⟨o2, _, h2, _⟩ := cellO z
        rw [I.stkFree b hb] at h2
        cases h2
      have un' : Un (frs X.stack) [] H (shw F.cl H H') s.heap s'.heap := by
        refine ⟨fun b o g n hb hx => un.keep b o g (none_ n) hb hx, fun b o g n hb hx => un.slot b o g (none_ n) hb hx, fun b o g n hx => ?_, un.there, fun b xs h => ?_, fun b o u h => ?_, fun b ps h => ?_⟩
        · by_cases z : InC F.cl b
          · rw [shw_in z]
            exact n
          · rw [shw_out z]
            exact un.free b o g (none_ n) hx
        · have z := not_cell C h fun _ z => by cases z
          rw [shw_out z]
          exact un.tups b xs (by rw [hid_out z]; exact h)
        · by_cases z : InC F.cl b
          · rw [shw_in z]
            exact h
          · rw [shw_out z]
            exact un.frzs b o u (by rw [hid_out z]; exact h)
        · have z := not_cell C h fun _ z => by cases z
          obtain ⟨more, e⟩ := un.tbls b ps (by rw [hid_out z]; exact h)
          exact ⟨more, by rw [shw_out z]; exact e⟩
      have hok2 : HOk X.prog X.w (shw F.cl H H') s'.heap := fun b o e => by
        by_cases z : InC F.cl b
        · rw [shw_in z] at e
          obtain ⟨o2, v2, h2, d2, g2⟩ := cellO z
          rw [h2] at e
          cases e
          exact ⟨keep b o2 z g2, trivial, ⟨o2, keep b o2 z g2⟩, fun _ _ _ _ => trivial⟩
        · rw [shw_out z] at e
          have nf : ∀ {c : Addr} {w : HO}, H' c = some w → ¬ InC F.cl c := fun {c w} h z => by
            rw [free c z] at h
            cases h
          exact (hok' b o e).stay (fun _ _ _ z => z) (fun c z => by rw [shw_out (nf z)]; exact z) fun c xs z => by rw [shw_out (nf z)]; exact z
      exact I.after ⟨v, shw F.cl H H', os, bare, un', hok2, rv, qv free⟩
end
section
variable {X : Cx} {σ : L2.St} {H : Hp} {F : NF} {f : Addr} {ps fr : List Str} {ws : List V} {k j : Nat} {sp : List (Option V) → Sp} {e : Expr} {es : List Expr} {x : Str} {p pos : Pos} {i : Nat}
theorem w_esc (Fn : NOk X.prog X.w X.K X.mg X.base CX0 k f F ps fr sp) (hr : Room j X.A) (hk : k ≤ j) (hf : H f = some (FnO f F)) {Q : VK} (hs : σ[i]? = some (some (.ref f)))
    (h : wA X (e :: es) σ H fun vs H1 => H1 f = some (FnO f F) ∧ H1 F.c = some (CodeO F.c F.qual) ∧ Clo H1 F.cl fr ws ∧ sp (ws.map some) vs (hid F.cl H1) (fun v H' => (∀ b, InC F.cl b → H' b = none) → Q v (shw F.cl H1 H')) E0)
    (hN : X.N[i]? = some x := by rfl) (hv : Vis X.env.scope x := by first | exact Or.inl rfl | exact Or.inr (Or.inl rfl) | exact Or.inr (Or.inr rfl)) (hd : (x == ("__debug__" : Str)) = false := by decide) (hcd : (x == ("__classdict__" : Str)) = false := by decide)
    (he : starEach (e :: es) X.env = (false, eval e X.env) :: starEach es X.env := by rfl) (hpl : (backTo pos (starEach es X.env)).any (·.1) = false := by rfl) : wE X (.Call (.Name x p) (e :: es) [] pos) σ H Q := fun pins s I => by
  refine wpAny_Call_Name_kw (thn ((pe_var (pos := p) hN hv hd hcd).run pins s σ H (fun v H1 => v = .ref f ∧ H1 = H) I ⟨.ref f, hs, rfl, rfl⟩) fun u s1 ⟨v, H1, I1, r1, q1⟩ => ?_)
  obtain ⟨ev, eH⟩ := q1
  subst ev
  rw [eH] at I1
  obtain rfl : u = Value.ref f := r1
  refine PySem.W.callWith_F (first := []) (NdefX.fnAt_of I1 hf) (thn (h pos pins s1 I1) fun us s2 ⟨vs, H2, I2, r, h1, h2, C, q⟩ => ⟨NdefX.fnAt_of I2 h1, ?_⟩) he hpl
  exact run_esc Fn hr hk I2 h1 h2 C r q
end
end G28
namespace G28
open PySem PySem.Spec PyProof.Rows L2
open NdefX (NF FnO NOk CellsAt nok_of nscope_by TabN TabsN)
open LamX (CodeO TabB ExtN)
variable [Tb]
/-- what such a def gives: the function, its code object, its cells -/
def spMk (stI : Stmt) (y : Str) (q : Str) (fr : List Str) : Sp := fun vs H Q _ => TabOk H ∧ vs.length = fr.length ∧ ∀ (f' c' : Addr) (cl : List (Str × Addr)) (H' : Hp), Kp [] H H' → H f' = none → H' f' = some (FnO f' (NF.of stI y q cl c')) → H' c' = some (CodeO c' q) → Clo H' cl fr vs → Q (.ref f') H'
/-- a def of such a body: def y(..): ..; return y; its parameters fr are all captured -/
theorem fn_maker {P : Program} {w : World} {K : PySem.W.Frag} {mg : Str → Option Value} {base : Heap} {k : Nat} {f c : Addr} {name qual y q : Str} {params : Arguments} {body : List Stmt} {scope : Scope} {dV kV doc pm ct oc : Value} {an od : Option Addr} {osl : Array (Option Value)} {N fr : List Str} {stI : Stmt} {p1 p2 pI : Pos}
    (lk : K.lookup f = some ⟨oc, od, .func (PySem.W.fnOf name qual params body scope dV kV doc pm an (.ref c) ct), osl⟩) (hcd : PySem.W.codeIn K (.ref c) qual = true) (S : FnScope N fr scope) (TB : TabB base mg c Tb.P)
    (hbody : body = [stI, .Return (some (.Name y p1)) p2]) (hst : stI = .FunctionDef y (C8.fnArgs stI) (C8.fnBody stI) [] none [] (C8.fnScope stI) none y pI) (hq : q = qual ++ ".<locals>." ++ y) (hnm : ∀ a b, Tb.nm a b = q)
    (hN : N[fr.length]? = some y) (hy : scope.names.lookup y = some .local) (hcell : ∀ z ∈ fr, scope.names.lookup z = some .cell) (hfr : ∀ z ∈ fr, (z, NameKind.free) ∈ (C8.fnScope stI).names) (hfree : ∀ z ∈ (C8.fnScope stI).names, z.2 = .free → z.1 ∈ fr)
    (hd0 : (C8.fnArgs stI).defaults = []) (hk0 : (C8.fnArgs stI).kw_defaults = []) (ha : ∀ env, annTrees (C8.fnArgs stI) none env = []) (hd : (y == ("__debug__" : Str)) = false := by decide) (hcdd : (y == ("__classdict__" : Str)) = false := by decide) :
    FnOk P w K mg base CX0 (k + 1) f (PySem.W.fnOf name qual params body scope dV kV doc pm an (.ref c) ct) fr (spMk stI y q fr) := by
  refine ⟨fun vs H Q E h => h.2.1, fun A outer s H args us vs Q E hr e0 hb r hsp => ?_⟩
  obtain ⟨ht, hl, hsp⟩ := hsp
  have KX : K.In s.heap := e0.mod.kin.keeps fun b o e => (e0.bs b o e).1
  have lim : s.heap.NoLimit := e0.mod.nolimit.keeps fun b o e => (e0.bs b o e).1
  refine codeAny_call_function hr.depth (KX _ _ lk) rfl S.co S.gen rfl (PySem.W.codeRec_of KX hcd) (hb _ _ _ _ ?_)
  refine wpAny_newFunctionEnv_cells S.kind (fun z hz => ?_) fun env he s1 x => ?_
  · obtain ⟨n, v⟩ := z
    exact .inr ⟨hcell n (List.of_mem_zip hz).1, PySem.W.cellsFrom_some _ _ _ (.inl (hcell n (List.of_mem_zip hz).1))⟩
  subst he
  refine ⟨lim.keeps x.toInCall.keep, codeAny_func ?_⟩
  have I : Inv (cxOf CX0 P w K mg base N qual scope f (.ref c) A outer s H E) [] (start N vs) H s1 := inv_start S hr.hd e0 hl r x
  have hfree2 : ∀ z ∈ (C8.fnScope stI).names, z.2 = .free → scope.names.lookup z.1 = some .cell ∨ scope.names.lookup z.1 = some .free := fun z hz e => .inl (hcell _ (hfree z hz e))
  have mk := NdefX.ps_ndefMS (X := cxOf CX0 P w K mg base N qual scope f (.ref c) A outer s H E) (st := stI) (T := [(Tb.P, Tb.nm)]) (nm := Tb.nm) (c := c) (P := Tb.P) (name := y) (pos := pI) (i := fr.length) hst TB rfl (List.mem_singleton.mpr rfl)
    ((hnm _ _).trans hq) (fun p hp _ => by rw [List.mem_singleton.mp hp]) hfree2 hd0 hk0 (ha _) S.nd hN (.inl hy) (.inl rfl)
  subst hbody
  refine wpAny_execs_cons (thn (mk.run [] s1 (start N vs) H { nx := fun σ' H1 => ∃ f' c', σ' = (start N vs).set fr.length (some (.ref f')) ∧ Kp [] H H1 ∧ H f' = none ∧ H1 f' = some (FnO f' (NF.of stI y q (cloFrom (envOfC qual scope s.heap.objs.size f (.ref c)).cells (C8.fnScope stI).names []) c')) ∧ H1 c' = some (CodeO c' q), rt := fun _ _ => False } I ⟨fun p hp => ?_, fun f' c' H1 eN nn T1 f0 f1 c1 => ?_⟩) fun fl s2 hq2 => ?_)
  · rw [List.mem_singleton.mp hp]
    exact ht
  · have e : (cxOf CX0 P w K mg base N qual scope f (.ref c) A outer s H E).env.qual ++ y = q := hq.symm
    rw [e] at f1 c1
    exact ⟨f', c', rfl, ⟨fun b o h _ n => eN b o h n, fun b xs h => eN b _ h (fun _ z => by cases z), fun b o u h => eN b _ h (fun _ z => by cases z), nn, fun _ => T1 _ (List.mem_singleton.mpr rfl)⟩, f0, f1, c1⟩
  cases fl with
  | ret u => obtain ⟨_, _, _, _, _, z⟩ := hq2; exact z.elim
  | brk => obtain ⟨_, _, _, z⟩ := hq2; exact z.elim
  | cont => obtain ⟨_, _, _, z⟩ := hq2; exact z.elim
  | next =>
    obtain ⟨σ', H1, J, f', c', rfl, k1, nf, hf, hc⟩ := hq2
    have hlt : fr.length < (start N vs).length := by
      rw [I.len]
      exact (List.getElem?_eq_some_iff.mp hN).1
    refine wpAny_execs_cons (wpAny_Return_some (thn ((pe_var (X := cxOf CX0 P w K mg base N qual scope f (.ref c) A outer s H E) (i := fr.length) (pos := p1) hN (.inl hy) hd hcdd).run [] s2 _ H1 (fun v H2 => v = .ref f' ∧ H2 = H1) J ⟨.ref f', by rw [List.getElem?_set_self hlt], rfl, rfl⟩) fun u s3 hs3 => ?_))
    obtain ⟨v, H2, J3, rv, ev, eH⟩ := hs3
    subst ev eH
    generalize hcl : cloFrom (envOfC qual scope s.heap.objs.size f (.ref c)).cells (C8.fnScope stI).names [] = cl at hf
    have cm : ∀ z a, cl.lookup z = some a → (envOfC qual scope s.heap.objs.size f (.ref c)).cells.lookup z = some a := fun z a e => by
      rw [← hcl] at e
      exact NdefX.clo_cm (fun w hw e => J3.ok.has _ (hfree2 w hw e)) e
    have new : ∀ z a, cl.lookup z = some a → s.heap.objs.size ≤ a := fun z a e => J3.ok.cab z a rfl (cm z a e)
    have out : ∀ {b : Addr}, InC cl b → H2 b = none := fun {b} ⟨z, e⟩ => J3.freeC z b (cm z b e)
    have obj : ∀ {b : Addr}, InC cl b → ∃ o v, s3.heap.get? b = some o ∧ o.data = .cell v := fun {b} ⟨z, e⟩ => by
      obtain ⟨v, o, ho, hd⟩ := J3.cell z b (cm z b e)
      exact ⟨o, v, ho, hd⟩
    let Hc : Hp := fun b => match s3.heap.get? b with
      | some o => some (HO.frz o extT)
      | none => none
    have hcO : ∀ {b : Addr} {o : Obj}, s3.heap.get? b = some o → Hc b = some (.frz o extT) := fun {b o} e => by
      show (match s3.heap.get? b with
        | some o => some (HO.frz o extT)
        | none => none) = _
      rw [e]
    have nin : ∀ {b : Addr} {o : HO}, H2 b = some o → ¬ InC cl b := fun {b o} h z => by
      rw [out z] at h
      cases h
    have inS : ∀ {b : Addr}, InC cl b → s.heap.get? b = none := fun {b} ⟨z, e⟩ => Heap.get?_none_of_le (new z b e)
    have inH : ∀ {b : Addr}, InC cl b → H b = none := fun {b} ⟨z, e⟩ => e0.hok.fresh (new z b e)
    have at2 : ∀ {b : Addr} {o : HO}, H2 b = some o → shw cl Hc H2 b = some o := fun {b o} h => by
      rw [shw_out (nin h)]
      exact h
    have un := J3.base
    have un2 : Un (frs outer) [] H (shw cl Hc H2) s.heap s3.heap := by
      refine ⟨un.keep, un.slot, fun b o g n hx => ?_, un.there, fun b xs h => at2 (un.tups b xs h), fun b o u h => at2 (un.frzs b o u h), fun b ps h => ?_⟩
      · rw [shw_out fun z => by rw [inS z] at g; cases g]
        exact un.free b o g n hx
      · obtain ⟨more, e⟩ := un.tbls b ps h
        exact ⟨more, at2 e⟩
    have hok2 : HOk P w (shw cl Hc H2) s3.heap := fun b o e => by
      by_cases z : InC cl b
      · rw [shw_in z] at e
        obtain ⟨o2, v2, g2, d2⟩ := obj z
        rw [hcO g2] at e
        cases e
        exact ⟨g2, trivial, ⟨o2, g2⟩, fun _ _ _ _ => trivial⟩
      · rw [shw_out z] at e
        exact (J3.hok b o e).stay (fun _ _ _ z => z) (fun c z => at2 z) fun c xs z => at2 z
    refine ⟨.ref f', shw cl Hc H2, J3.os, J3.bare, un2, hok2, rv, hsp f' c' cl _ ⟨fun b o h n t => at2 (k1.keep b o h n t), fun b xs h => at2 (k1.tup b xs h), fun b o u h => at2 (k1.frz b o u h), fun b h => ?_, fun t => ?_⟩ nf (at2 hf) (at2 hc) ⟨hl, fun a b d e1 e2 => J3.ok.inj a b d (cm a d e1) (cm b d e2), fun z a e => ?_, fun i z e => ?_⟩⟩
    · by_cases z : InC cl b
      · exact inH z
      · rw [shw_out z] at h
        exact k1.back b h
    · obtain ⟨ps, h1, h2, h3⟩ := k1.tabs t
      refine ⟨ps, at2 h1, h2, fun pos cv hc => ?_⟩
      obtain ⟨a, e1, e2⟩ := h3 pos cv hc
      exact ⟨a, e1, at2 e2⟩
    · obtain ⟨o, v, g, d⟩ := obj ⟨z, e⟩
      exact ⟨o, v, by rw [shw_in ⟨z, e⟩]; exact hcO g, d⟩
    · have hz := List.mem_of_getElem? e
      have kc := hcell z hz
      obtain ⟨a, ha⟩ := J3.ok.has z (.inl kc)
      have hca : cl.lookup z = some a := by
        rw [← hcl]
        exact NdefX.clo_has (fun w hw e => J3.ok.has _ (hfree2 w hw e)) (hfr z hz) ha
      refine ⟨a, hca, fun wv hw => ?_⟩
      have hi : i < fr.length := (List.getElem?_eq_some_iff.mp e).1
      have hNi : N[i]? = some z := by
        have q1 := S.pre
        rw [← e, ← q1, List.getElem?_take_of_lt hi]
      have hσ : ((start N vs).set fr.length (some (.ref f')))[i]? = some (some wv) := by
        rw [List.getElem?_set_ne (by omega)]
        unfold L2.start
        rw [List.getElem?_append_left (by rw [List.length_map]; omega), List.getElem?_map, hw] <;> rfl
      obtain ⟨m, hn, hlk⟩ := J3.loc
      obtain ⟨u, ru, lkk⟩ := hlk i z wv hNi hσ (.inr (.inl kc))
      rcases lkk with ⟨z1, _⟩ | ⟨_, a', ha', o, ho, hdd⟩
      · have z1' : scope.names.lookup z = some .local := z1
        rw [kc] at z1'
        cases z1'
      · have e3 : a = a' := by
          rw [ha] at ha'
          exact Option.some.inj ha'
        subst e3
        exact ⟨o, u, by rw [shw_in ⟨z, hca⟩]; exact hcO ho, hdd, ru⟩
end G28
namespace G28
open PySem PySem.Spec PyProof.Rows L2
def topS (i : Nat) : Stmt := PySem.Challenge.pw_goesout_k28_whole_walks_and_runs.main.body.getD i (.Pass ⟨0, 0, 0, 0⟩)
abbrev sFollowed : Stmt := topS 8
abbrev nFollowed : List Str := ["here", "steps_of", "names", "found", "name", "rows", "row"]
theorem scFollowed : FnScope nFollowed ["here", "steps_of", "names"] (defScope sFollowed) := ⟨rfl, rfl, rfl, by decide +kernel, rfl, by decide +kernel, by decide +kernel⟩
abbrev sEndOf : Stmt := topS 9
abbrev nEndOf : List Str := ["first", "steps"]
theorem scEndOf : FnScope nEndOf ["first", "steps"] (defScope sEndOf) := ⟨rfl, rfl, rfl, by decide +kernel, rfl, by decide +kernel, by decide +kernel⟩
abbrev sIsWhole : Stmt := topS 15
abbrev nIsWhole : List Str := ["thing", "low", "high"]
theorem scIsWhole : FnScope nIsWhole ["thing", "low", "high"] (defScope sIsWhole) := ⟨rfl, rfl, rfl, by decide +kernel, rfl, by decide +kernel, by decide +kernel⟩
abbrev sIsOrder : Stmt := topS 16
abbrev nIsOrder : List Str := ["thing", "places", "one"]
theorem scIsOrder : FnScope nIsOrder ["thing", "places"] (defScope sIsOrder) := ⟨rfl, rfl, rfl, by decide +kernel, rfl, by decide +kernel, by decide +kernel⟩
abbrev sIsMove : Stmt := topS 17
abbrev nIsMove : List Str := ["thing", "places", "labels"]
theorem scIsMove : FnScope nIsMove ["thing", "places", "labels"] (defScope sIsMove) := ⟨rfl, rfl, rfl, by decide +kernel, rfl, by decide +kernel, by decide +kernel⟩
abbrev sAreMoves : Stmt := topS 18
abbrev nAreMoves : List Str := ["thing", "places", "labels", "one"]
theorem scAreMoves : FnScope nAreMoves ["thing", "places", "labels"] (defScope sAreMoves) := ⟨rfl, rfl, rfl, by decide +kernel, rfl, by decide +kernel, by decide +kernel⟩
abbrev sIsLabelRow : Stmt := topS 19
abbrev nIsLabelRow : List Str := ["thing", "places", "labels", "hits", "out", "comes"]
theorem scIsLabelRow : FnScope nIsLabelRow ["thing", "places", "labels"] (defScope sIsLabelRow) := ⟨rfl, rfl, rfl, by decide +kernel, rfl, by decide +kernel, by decide +kernel⟩
abbrev sIsRule : Stmt := topS 20
abbrev nIsRule : List Str := ["thing", "places", "labels", "one"]
theorem scIsRule : FnScope nIsRule ["thing"] (defScope sIsRule) := ⟨rfl, rfl, rfl, by decide +kernel, rfl, by decide +kernel, by decide +kernel⟩
abbrev sNeedRule : Stmt := topS 21
abbrev nNeedRule : List Str := ["rule"]
theorem scNeedRule : FnScope nNeedRule ["rule"] (defScope sNeedRule) := ⟨rfl, rfl, rfl, by decide +kernel, rfl, by decide +kernel, by decide +kernel⟩
abbrev sIsThing : Stmt := topS 22
abbrev nIsThing : List Str := ["thing"]
theorem scIsThing : FnScope nIsThing ["thing"] (defScope sIsThing) := ⟨rfl, rfl, rfl, by decide +kernel, rfl, by decide +kernel, by decide +kernel⟩
abbrev sFirstState : Stmt := topS 23
abbrev nFirstState : List Str := ["rule"]
theorem scFirstState : FnScope nFirstState ["rule"] (defScope sFirstState) := ⟨rfl, rfl, rfl, by decide +kernel, rfl, by decide +kernel, by decide +kernel⟩
abbrev sIsRow : Stmt := topS 24
abbrev nIsRow : List Str := ["thing", "places", "one"]
theorem scIsRow : FnScope nIsRow ["thing", "places"] (defScope sIsRow) := ⟨rfl, rfl, rfl, by decide +kernel, rfl, by decide +kernel, by decide +kernel⟩
abbrev sIsStateOf : Stmt := topS 25
abbrev nIsStateOf : List Str := ["rule", "thing"]
theorem scIsStateOf : FnScope nIsStateOf ["rule", "thing"] (defScope sIsStateOf) := ⟨rfl, rfl, rfl, by decide +kernel, rfl, by decide +kernel, by decide +kernel⟩
abbrev sArranged : Stmt := topS 26
abbrev nArranged : List Str := ["row", "order", "at"]
theorem scArranged : FnScope nArranged ["row", "order"] (defScope sArranged) := ⟨rfl, rfl, rfl, by decide +kernel, rfl, by decide +kernel, by decide +kernel⟩
abbrev sStep : Stmt := topS 27
abbrev nStep : List Str := ["rule", "state", "thing", "row", "label", "hits", "out", "comes", "order", "later", "place", "gone", "filled"]
theorem scStep : FnScope nStep ["rule", "state", "thing"] (defScope sStep) := ⟨rfl, rfl, rfl, by decide +kernel, rfl, by decide +kernel, by decide +kernel⟩
abbrev sNeedRules : Stmt := topS 29
abbrev nNeedRules : List Str := ["one", "other"]
theorem scNeedRules : FnScope nNeedRules ["one", "other"] (defScope sNeedRules) := ⟨rfl, rfl, rfl, by decide +kernel, rfl, by decide +kernel, by decide +kernel⟩
abbrev sNamed : Stmt := topS 30
abbrev nNamed : List Str := ["mine", "its", "numbers", "thing", "row", "label"]
theorem scNamed : FnScope nNamed ["mine", "its"] (defScope sNamed) := ⟨rfl, rfl, rfl, by decide +kernel, rfl, by decide +kernel, by decide +kernel⟩
abbrev sFirstPair : Stmt := topS 31
abbrev nFirstPair : List Str := ["one", "other"]
theorem scFirstPair : FnScope nFirstPair ["one", "other"] (defScope sFirstPair) := ⟨rfl, rfl, rfl, by decide +kernel, rfl, by decide +kernel, by decide +kernel⟩
abbrev sStart : Stmt := topS 32
abbrev nStart : List Str := ["one", "other"]
theorem scStart : FnScope nStart ["one", "other"] (defScope sStart) := ⟨rfl, rfl, rfl, by decide +kernel, rfl, by decide +kernel, by decide +kernel⟩
abbrev sIsPair : Stmt := topS 33
abbrev nIsPair : List Str := ["one", "other", "thing"]
theorem scIsPair : FnScope nIsPair ["one", "other", "thing"] (defScope sIsPair) := ⟨rfl, rfl, rfl, by decide +kernel, rfl, by decide +kernel, by decide +kernel⟩
abbrev sIsArrangement : Stmt := topS 34
abbrev nIsArrangement : List Str := ["one", "other", "thing"]
theorem scIsArrangement : FnScope nIsArrangement ["one", "other", "thing"] (defScope sIsArrangement) := ⟨rfl, rfl, rfl, by decide +kernel, rfl, by decide +kernel, by decide +kernel⟩
abbrev sHowMany : Stmt := topS 35
abbrev nHowMany : List Str := ["arrangement"]
theorem scHowMany : FnScope nHowMany ["arrangement"] (defScope sHowMany) := ⟨rfl, rfl, rfl, by decide +kernel, rfl, by decide +kernel, by decide +kernel⟩
abbrev sMovedBy : Stmt := topS 36
abbrev nMovedBy : List Str := ["one", "other", "arrangement", "number", "mine", "its"]
theorem scMovedBy : FnScope nMovedBy ["one", "other", "arrangement", "number"] (defScope sMovedBy) := ⟨rfl, rfl, rfl, by decide +kernel, rfl, by decide +kernel, by decide +kernel⟩
abbrev sStepsOf : Stmt := topS 37
abbrev nStepsOf : List Str := ["one", "other", "steps"]
theorem scStepsOf : FnScope nStepsOf ["one", "other"] (defScope sStepsOf) := ⟨rfl, rfl, rfl, by decide +kernel, rfl, by decide +kernel, by decide +kernel⟩
abbrev sMoved : Stmt := topS 38
abbrev nMoved : List Str := ["one", "other", "arrangement", "number"]
theorem scMoved : FnScope nMoved ["one", "other", "arrangement", "number"] (defScope sMoved) := ⟨rfl, rfl, rfl, by decide +kernel, rfl, by decide +kernel, by decide +kernel⟩
abbrev sWalkOf : Stmt := topS 39
abbrev nWalkOf : List Str := ["one", "other", "walk"]
theorem scWalkOf : FnScope nWalkOf ["one", "other", "walk"] (defScope sWalkOf) := ⟨rfl, rfl, rfl, by decide +kernel, rfl, by decide +kernel, by decide +kernel⟩
abbrev sNeedWalk : Stmt := topS 40
abbrev nNeedWalk : List Str := ["one", "other", "walk", "steps"]
theorem scNeedWalk : FnScope nNeedWalk ["one", "other", "walk"] (defScope sNeedWalk) := ⟨rfl, rfl, rfl, by decide +kernel, rfl, by decide +kernel, by decide +kernel⟩
abbrev sWalked : Stmt := topS 41
abbrev nWalked : List Str := ["one", "other", "walk", "steps"]
theorem scWalked : FnScope nWalked ["one", "other", "walk"] (defScope sWalked) := ⟨rfl, rfl, rfl, by decide +kernel, rfl, by decide +kernel, by decide +kernel⟩
abbrev sSeenIn : Stmt := topS 42
abbrev nSeenIn : List Str := ["mine", "its", "found", "thing"]
theorem scSeenIn : FnScope nSeenIn ["mine", "its"] (defScope sSeenIn) := ⟨rfl, rfl, rfl, by decide +kernel, rfl, by decide +kernel, by decide +kernel⟩
abbrev sPlayed : Stmt := topS 43
abbrev nPlayed : List Str := ["one", "other", "walk", "mine", "its", "found", "used", "number", "known", "thing"]
theorem scPlayed : FnScope nPlayed ["one", "other", "walk"] (defScope sPlayed) := ⟨rfl, rfl, rfl, by decide +kernel, rfl, by decide +kernel, by decide +kernel⟩
abbrev sIsRequests : Stmt := topS 46
abbrev nIsRequests : List Str := ["thing", "one"]
theorem scIsRequests : FnScope nIsRequests ["thing"] (defScope sIsRequests) := ⟨rfl, rfl, rfl, by decide +kernel, rfl, by decide +kernel, by decide +kernel⟩
abbrev sNeedRequests : Stmt := topS 47
abbrev nNeedRequests : List Str := ["requests"]
theorem scNeedRequests : FnScope nNeedRequests ["requests"] (defScope sNeedRequests) := ⟨rfl, rfl, rfl, by decide +kernel, rfl, by decide +kernel, by decide +kernel⟩
abbrev sRunOf : Stmt := topS 48
abbrev nRunOf : List Str := ["rule", "requests", "state", "found", "lost", "thing", "is_hit", "away"]
theorem scRunOf : FnScope nRunOf ["rule", "requests"] (defScope sRunOf) := ⟨rfl, rfl, rfl, by decide +kernel, rfl, by decide +kernel, by decide +kernel⟩
abbrev sCheckedRun : Stmt := topS 49
abbrev nCheckedRun : List Str := ["rule", "requests"]
theorem scCheckedRun : FnScope nCheckedRun ["rule", "requests"] (defScope sCheckedRun) := ⟨rfl, rfl, rfl, by decide +kernel, rfl, by decide +kernel, by decide +kernel⟩
abbrev sBehind : Stmt := topS 50
abbrev nBehind : List Str := ["rule", "requests"]
theorem scBehind : FnScope nBehind ["rule", "requests"] (defScope sBehind) := ⟨rfl, rfl, rfl, by decide +kernel, rfl, by decide +kernel, by decide +kernel⟩
abbrev sHits : Stmt := topS 51
abbrev nHits : List Str := ["rule", "requests"]
theorem scHits : FnScope nHits ["rule", "requests"] (defScope sHits) := ⟨rfl, rfl, rfl, by decide +kernel, rfl, by decide +kernel, by decide +kernel⟩
abbrev sLwNamed : Stmt := topS 53
abbrev nLwNamed : List Str := ["_law_pair", "_law_known", "_law_thing", "_law_row", "_law_label"]
theorem scLwNamed : FnScope nLwNamed ["_law_pair"] (defScope sLwNamed) := ⟨rfl, rfl, rfl, by decide +kernel, rfl, by decide +kernel, by decide +kernel⟩
abbrev sLwPen : Stmt := topS 54
abbrev nLwPen : List Str := ["_law_cell"]
theorem scLwPen : FnScope nLwPen ["_law_cell"] (defScope sLwPen) := ⟨rfl, rfl, rfl, by decide +kernel, rfl, by decide +kernel, by decide +kernel⟩
abbrev sLwCellAt : Stmt := topS 55
abbrev nLwCellAt : List Str := ["_law_script", "_law_k"]
theorem scLwCellAt : FnScope nLwCellAt ["_law_script", "_law_k"] (defScope sLwCellAt) := ⟨rfl, rfl, rfl, by decide +kernel, rfl, by decide +kernel, by decide +kernel⟩
abbrev sLwDraw : Stmt := topS 56
abbrev nLwDraw : List Str := ["_law_pen_here", "_law_many_here", "_law_digit", "_law_stir"]
theorem scLwDraw : FnScope nLwDraw ["_law_pen_here", "_law_many_here"] (defScope sLwDraw) := ⟨rfl, rfl, rfl, by decide +kernel, rfl, by decide +kernel, by decide +kernel⟩
abbrev sLwFront : Stmt := topS 57
abbrev nLwFront : List Str := ["_law_place", "_law_places", "_law_one"]
theorem scLwFront : FnScope nLwFront ["_law_place", "_law_places"] (defScope sLwFront) := ⟨rfl, rfl, rfl, by decide +kernel, rfl, by decide +kernel, by decide +kernel⟩
abbrev sLwOneLabel : Stmt := topS 58
abbrev nLwOneLabel : List Str := ["_law_places", "_law_hit_orders", "_law_out", "_law_come_orders", "_law_at_hits", "_law_at_comes", "_law_one"]
theorem scLwOneLabel : FnScope nLwOneLabel ["_law_places", "_law_hit_orders", "_law_out", "_law_come_orders"] (defScope sLwOneLabel) := ⟨rfl, rfl, rfl, by decide +kernel, rfl, by decide +kernel, by decide +kernel⟩
abbrev sLwRecent : Stmt := topS 59
abbrev nLwRecent : List Str := ["_law_places", "_law_forward", "_law_place"]
theorem scLwRecent : FnScope nLwRecent ["_law_places"] (defScope sLwRecent) := ⟨rfl, rfl, rfl, by decide +kernel, rfl, by decide +kernel, by decide +kernel⟩
abbrev sLwQueue : Stmt := topS 60
abbrev nLwQueue : List Str := ["_law_places", "_law_forward", "_law_place"]
theorem scLwQueue : FnScope nLwQueue ["_law_places"] (defScope sLwQueue) := ⟨rfl, rfl, rfl, by decide +kernel, rfl, by decide +kernel, by decide +kernel⟩
abbrev sLwNewest : Stmt := topS 61
abbrev nLwNewest : List Str := ["_law_places", "_law_forward", "_law_place"]
theorem scLwNewest : FnScope nLwNewest ["_law_places"] (defScope sLwNewest) := ⟨rfl, rfl, rfl, by decide +kernel, rfl, by decide +kernel, by decide +kernel⟩
abbrev sLwMixed : Stmt := topS 62
abbrev nLwMixed : List Str := ["_law_pen_here", "_law_things", "_law_rest", "_law_found", "_law_turn"]
theorem scLwMixed : FnScope nLwMixed ["_law_pen_here", "_law_things"] (defScope sLwMixed) := ⟨rfl, rfl, rfl, by decide +kernel, rfl, by decide +kernel, by decide +kernel⟩
abbrev sLwMoves : Stmt := topS 63
abbrev nLwMoves : List Str := ["_law_pen_here", "_law_places", "_law_labels", "_law_found", "_law_place", "_law_order"]
theorem scLwMoves : FnScope nLwMoves ["_law_pen_here", "_law_places", "_law_labels"] (defScope sLwMoves) := ⟨rfl, rfl, rfl, by decide +kernel, rfl, by decide +kernel, by decide +kernel⟩
abbrev sLwDrawn : Stmt := topS 64
abbrev nLwDrawn : List Str := ["_law_pen_here", "_law_places", "_law_labels", "_law_rows", "_law_turn", "_law_at_hits", "_law_out"]
theorem scLwDrawn : FnScope nLwDrawn ["_law_pen_here", "_law_places", "_law_labels"] (defScope sLwDrawn) := ⟨rfl, rfl, rfl, by decide +kernel, rfl, by decide +kernel, by decide +kernel⟩
abbrev sLwRule : Stmt := topS 65
abbrev nLwRule : List Str := ["_law_pen_here", "_law_most", "_law_labels", "_law_places", "_law_way"]
theorem scLwRule : FnScope nLwRule ["_law_pen_here", "_law_most", "_law_labels"] (defScope sLwRule) := ⟨rfl, rfl, rfl, by decide +kernel, rfl, by decide +kernel, by decide +kernel⟩
abbrev sLwTwo : Stmt := topS 66
abbrev nLwTwo : List Str := ["_law_pen_here", "_law_most"]
theorem scLwTwo : FnScope nLwTwo ["_law_pen_here", "_law_most"] (defScope sLwTwo) := ⟨rfl, rfl, rfl, by decide +kernel, rfl, by decide +kernel, by decide +kernel⟩
abbrev sLwFirst : Stmt := topS 67
abbrev nLwFirst : List Str := ["_law_rule_here"]
theorem scLwFirst : FnScope nLwFirst ["_law_rule_here"] (defScope sLwFirst) := ⟨rfl, rfl, rfl, by decide +kernel, rfl, by decide +kernel, by decide +kernel⟩
abbrev sLwMet : Stmt := topS 68
abbrev nLwMet : List Str := ["_law_one", "_law_other"]
theorem scLwMet : FnScope nLwMet ["_law_one", "_law_other"] (defScope sLwMet) := ⟨rfl, rfl, rfl, by decide +kernel, rfl, by decide +kernel, by decide +kernel⟩
abbrev sLwMany : Stmt := topS 69
abbrev nLwMany : List Str := ["_law_pair"]
theorem scLwMany : FnScope nLwMany ["_law_pair"] (defScope sLwMany) := ⟨rfl, rfl, rfl, by decide +kernel, rfl, by decide +kernel, by decide +kernel⟩
abbrev sLwAsked : Stmt := topS 70
abbrev nLwAsked : List Str := ["_law_rule_here", "_law_state", "_law_thing", "_law_row", "_law_label", "_law_places", "_law_rows", "_law_at_hits", "_law_out", "_law_at_comes", "_law_order", "_law_later", "_law_place", "_law_lost", "_law_other", "_law_at"]
theorem scLwAsked : FnScope nLwAsked ["_law_rule_here", "_law_state", "_law_thing"] (defScope sLwAsked) := ⟨rfl, rfl, rfl, by decide +kernel, rfl, by decide +kernel, by decide +kernel⟩
abbrev sLwMoved : Stmt := topS 71
abbrev nLwMoved : List Str := ["_law_one", "_law_other", "_law_pair", "_law_number", "_law_mine", "_law_its"]
theorem scLwMoved : FnScope nLwMoved ["_law_one", "_law_other", "_law_pair", "_law_number"] (defScope sLwMoved) := ⟨rfl, rfl, rfl, by decide +kernel, rfl, by decide +kernel, by decide +kernel⟩
abbrev sLwWalk : Stmt := topS 72
abbrev nLwWalk : List Str := ["_law_pen_here", "_law_one", "_law_other", "_law_most", "_law_here", "_law_found", "_law_turn", "_law_number"]
theorem scLwWalk : FnScope nLwWalk ["_law_pen_here", "_law_one", "_law_other", "_law_most"] (defScope sLwWalk) := ⟨rfl, rfl, rfl, by decide +kernel, rfl, by decide +kernel, by decide +kernel⟩
abbrev sLwPick : Stmt := topS 73
abbrev nLwPick : List Str := ["_law_pen_here", "_law_things"]
theorem scLwPick : FnScope nLwPick ["_law_pen_here", "_law_things"] (defScope sLwPick) := ⟨rfl, rfl, rfl, by decide +kernel, rfl, by decide +kernel, by decide +kernel⟩
abbrev sLwWishes : Stmt := topS 74
abbrev nLwWishes : List Str := ["_law_pen_here", "_law_most", "_law_many_here", "_law_names", "_law_turn"]
theorem scLwWishes : FnScope nLwWishes ["_law_pen_here", "_law_most", "_law_many_here"] (defScope sLwWishes) := ⟨rfl, rfl, rfl, by decide +kernel, rfl, by decide +kernel, by decide +kernel⟩
abbrev sLwNumbers : Stmt := topS 75
abbrev nLwNumbers : List Str := ["_law_pen_here", "_law_one", "_law_other", "_law_wishes_here", "_law_found", "_law_at", "_law_thing", "_law_known", "_law_name"]
theorem scLwNumbers : FnScope nLwNumbers ["_law_pen_here", "_law_one", "_law_other", "_law_wishes_here"] (defScope sLwNumbers) := ⟨rfl, rfl, rfl, by decide +kernel, rfl, by decide +kernel, by decide +kernel⟩
abbrev sLwRight : Stmt := topS 76
abbrev nLwRight : List Str := ["_law_one", "_law_other", "_law_walk_here", "_law_wishes_here", "_law_here", "_law_states", "_law_mine", "_law_its", "_law_at", "_law_number", "_law_told"]
theorem scLwRight : FnScope nLwRight ["_law_one", "_law_other", "_law_walk_here"] (defScope sLwRight) := ⟨rfl, rfl, rfl, by decide +kernel, rfl, by decide +kernel, by decide +kernel⟩
abbrev sLaw : Stmt := topS 77
abbrev nLaw : List Str := ["_law_script", "_law_k", "_law_pen_here", "_law_turn", "_law_one", "_law_other", "_law_wishes_here", "_law_numbers_here", "_law_states", "_law_again"]
theorem scLaw : FnScope nLaw ["_law_script"] (defScope sLaw) := ⟨rfl, rfl, rfl, by decide +kernel, rfl, by decide +kernel, by decide +kernel⟩
end G28
namespace G28
open PySem PySem.Spec PyProof.Rows L2
variable [Tb]
/-! ### the module's names -/
structure Bt (mg : Str → Option Value) : Prop where
  isi : mg "isinstance" = none
  int : mg "int" = none
  bool : mg "bool" = none
  tuple : mg "tuple" = none
  len : mg "len" = none
  all : mg "all" = none
  sorted : mg "sorted" = none
  list : mg "list" = none
  range : mg "range" = none
  max : mg "max" = none
  min : mg "min" = none
  repr : mg "repr" = none
  enum : mg "enumerate" = none
  places : ∃ t, mg "MOST_PLACES" = some (.int 4 t)
  labels : ∃ t, mg "MOST_LABELS" = some (.int 16 t)
  thing : ∃ t, mg "MOST_THING" = some (.int 99 t)
  blank : ∃ t, mg "BLANK" = some (.int (-1) t)
  reqs : ∃ t, mg "MOST_REQUESTS" = some (.int 60 t)
def DefAt (K : PySem.W.Frag) (mg : Str → Option Value) (x : Str) (st : Stmt) (ps : List Str) : Prop := ∃ (f : Addr) (fd : FuncData), Fun K x x st f fd ∧ mg x = some (.ref f) ∧ Binds K fd ps []
section
variable {P : Program} {w : World} {K : PySem.W.Frag} {mg : Str → Option Value} {base : Heap} {x : Str} {st : Stmt} {N ps : List Str} {k : Nat}
theorem Cal.mkP {R : List Da → Da → Prop} (F : DefAt K mg x st ps) (S : FnScope N ps (defScope st)) (hl : ∀ ds d, R ds d → ds.length = ps.length)
    (hb : ∀ (f : Addr) (cdv : Value) (A : Around) (outer : List Env) (s : Shared) (H : Hp) (vs : List V) (E : XK) (ds : List Da) (d : Da), Room k (A.deeper (envOfC x (defScope st) s.heap.objs.size f cdv)) → RpA K H vs ds → R ds d →
      wB (cxOf CX0 P w K mg base N x (defScope st) f cdv A outer s H E).nox (defBody st) { nx := fun _ H' => Ret K H d .non H', rt := Ret K H d } (L2.start N vs) H) : Cal P w K mg base (k + 1) x ps (pS K R) := by
  obtain ⟨f, fd, F, hm, hb'⟩ := F
  exact ⟨f, fd, okP F S hl (hb f), hm, F.kp, hb'⟩
theorem Cal.mkW {sp : Sp} (F : DefAt K mg x st ps) (S : FnScope N ps (defScope st)) (hl : ∀ vs H Q E, sp vs H Q E → vs.length = ps.length)
    (hb : ∀ (f : Addr) (cdv : Value) (A : Around) (outer : List Env) (s : Shared) (H : Hp) (vs : List V) (Q : VK) (E : XK), Room k (A.deeper (envOfC x (defScope st) s.heap.objs.size f cdv)) → sp vs H Q E →
      wB (cxOf CX0 P w K mg base N x (defScope st) f cdv A outer s H E).nox (defBody st) { nx := fun _ H' => Q .non H', rt := Q } (L2.start N vs) H) : Cal P w K mg base (k + 1) x ps sp := by
  obtain ⟨f, fd, F, hm, hb'⟩ := F
  exact ⟨f, fd, okW F S hl (hb f), hm, F.kp, hb'⟩
theorem Cal.up {j : Nat} {sp : Sp} (c : Cal P w K mg base j x ps sp) (h : j ≤ k) : Cal P w K mg base k x ps sp := by
  obtain ⟨f, fd, F, hm, hk, hb⟩ := c
  exact ⟨f, fd, F.mono h, hm, hk, hb⟩
variable {H : Hp} {vs : List V} {d1 d2 d3 d4 d5 : Da}
theorem RpA.c1 (r : RpA K H vs [d1]) : ∃ v1, vs = [v1] ∧ Rp K H v1 d1 := by
  cases r with
  | cons r1 r => cases r; exact ⟨_, rfl, r1⟩
theorem RpA.c2 (r : RpA K H vs [d1, d2]) : ∃ v1 v2, vs = [v1, v2] ∧ Rp K H v1 d1 ∧ Rp K H v2 d2 := by
  cases r with
  | cons r1 r => obtain ⟨v2, rfl, r2⟩ := r.c1; exact ⟨_, _, rfl, r1, r2⟩
theorem RpA.c3 (r : RpA K H vs [d1, d2, d3]) : ∃ v1 v2 v3, vs = [v1, v2, v3] ∧ Rp K H v1 d1 ∧ Rp K H v2 d2 ∧ Rp K H v3 d3 := by
  cases r with
  | cons r1 r => obtain ⟨v2, v3, rfl, r2, r3⟩ := r.c2; exact ⟨_, _, _, rfl, r1, r2, r3⟩
theorem RpA.c4 (r : RpA K H vs [d1, d2, d3, d4]) : ∃ v1 v2 v3 v4, vs = [v1, v2, v3, v4] ∧ Rp K H v1 d1 ∧ Rp K H v2 d2 ∧ Rp K H v3 d3 ∧ Rp K H v4 d4 := by
  cases r with
  | cons r1 r => obtain ⟨v2, v3, v4, rfl, r2, r3, r4⟩ := r.c3; exact ⟨_, _, _, _, rfl, r1, r2, r3, r4⟩
end
/-! ### the rules' data -/
def dOrd (o : List Nat) : Da := .tuple (dI (o.map Int.ofNat))
def dMv (m : Mv) : Da := .tuple [dOrd m.1, .int (m.2 : Int)]
def dRow (l : LRow) : Da := .tuple [.tuple (l.hits.map dMv), .int (l.out : Int), .tuple (l.comes.map dMv)]
def dRule (r : Rule) : Da := .tuple [.int (r.places : Int), .tuple (r.rows.map dRow)]
def dSta (s : Sta) : Da := .tuple [.row s.1, .int (s.2 : Int)]
def dPair (A : Sta × Sta) : Da := .tuple [dSta A.1, dSta A.2]
/-! ### is_whole -/
def rIsWhole (ds : List Da) (d : Da) : Prop := ∃ i lo hi : Int, ds = [.int i, .int lo, .int hi] ∧ d = .bool (decide (lo ≤ i) && decide (i ≤ hi))
section
variable {P : Program} {w : World} {K : PySem.W.Frag} {mg : Str → Option Value} {base : Heap}
theorem c_isWhole (B : Bt mg) (F : DefAt K mg "is_whole" sIsWhole ["thing", "low", "high"]) : Cal P w K mg base 1 "is_whole" ["thing", "low", "high"] (pS K rIsWhole) := by
  refine .mkP F scIsWhole (fun ds d ⟨_, _, _, e, _⟩ => by rw [e]; rfl) fun f cdv A outer s H vs E ds d hr rs hR => ?_
  obtain ⟨i, lo, hi, rfl, rfl⟩ := hR
  obtain ⟨v1, v2, v3, rfl, r1, r2, r3⟩ := rs.c3
  refine b_one (s_retD (Kp.refl H) ?_)
  exact (dd_and (dd_isi (dd_var 0 r1) (fun _ _ r => int_ty r) (k := true) (by decide +kernel) B.isi B.int boot_int) fun _ =>
    dd_and (dd_not (dd_isi (dd_var 0 r1) (fun _ _ r => int_ty r) (k := false) (by decide +kernel) B.isi B.bool PyProof.Rows.boot_bool)) fun _ =>
    dd_one (dd_within (dd_var 1 r2) (dd_var 0 r1) (dd_var 2 r3))).is rfl
end
end G28
namespace G28
open PySem PySem.Spec PyProof.Rows L2
variable [Tb]
/-! ### more words -/
section
variable {X : Cx} {tg e a b c iter elt : Expr} {es : List Expr} {σ : L2.St} {H H' : Hp} {pos p px : Pos} {d d' d1 d2 d3 : Da} {ds : List Da} {x : Str} {i j : Int} {k : Nat}
theorem DD.as (q : d = d') (h : DD X e σ H d) : DD X e σ H d' := h.is q
theorem Dt.as {k k' : Bool} (q : k = k') (h : Dt X e σ H k) : Dt X e σ H k' := h.is q
theorem dd_yes {k : Bool} (q : k = true) (h : DD X e σ H (.bool k)) : DD X e σ H (.bool true) := h.is (by rw [q])
theorem dt_no {k : Bool} (q : k = false) (h : Dt X e σ H k) : Dt X e σ H false := h.is q
theorem dt_yes {k : Bool} (q : k = true) (h : Dt X e σ H k) : Dt X e σ H true := h.is q
theorem dd_rt {ns : List Int} (h : DD X e σ H (.row ns)) : DD X e σ H (.tuple (dI ns)) := h.im fun v H2 _ r => r.rt
theorem dd_or {k l : Bool} {rest : List Expr} (ha : DD X a σ H (.bool k)) (hb : k = false → DD X (.BoolOp .Or (b :: rest) pos) σ H (.bool l)) : DD X (.BoolOp .Or (a :: b :: rest) pos) σ H (.bool (k || l)) :=
  .of (pe_or wE_pe wE_pe) fun H1 q => wE_mono (ha H1 q) fun x H2 ⟨k2, r1⟩ => ⟨k, r1.b, by
    cases k with
    | false =>
      rw [if_neg Bool.false_ne_true]
      exact wE_mono (hb rfl H2 (q.trans k2)) fun y H3 ⟨k3, r2⟩ => ⟨k2.trans k3, by rw [Bool.false_or]; exact r2⟩
    | true =>
      rw [if_pos rfl]
      exact ⟨k2, .bl true⟩⟩
theorem dd_allT (h : DL X a σ H (ds.map fun _ => Da.bool true)) (hm : X.mg "all" = none) (hc : X.calm = true := by rfl) (hg : Gl X "all" := by rfl) (he : starEach [a] X.env = (false, eval a X.env) :: starEach [] X.env := by rfl)
    (hpl : (backTo pos (starEach [] X.env)).any (·.1) = false := by rfl) : DD X (.Call (.Name "all" p) [a] [] pos) σ H (.bool true) := by
  have e1 : (ds.map fun _ => Da.bool true) = (ds.map fun _ => true).map Da.bool := by
    rw [List.map_map]
    rfl
  rw [e1] at h
  have e2 : (ds.map fun _ => true).all id = true := by
    rw [List.all_map]
    exact List.all_eq_true.mpr fun _ _ => rfl
  exact (dd_all h hm hc hg he hpl).is (by rw [e2])
theorem s_two {D : Ends} {n m : Nat} {es' : List Expr} {kk : Nat} (h : DD X e σ H (.tuple [d1, d2])) (q : ∀ v1 v2 H1, Kp [] H H1 → Rp X.K H1 v1 d1 → Rp X.K H1 v2 d2 → D.nx ((σ.set n (some v1)).set m (some v2)) H1)
    (hg : PG X (.Tuple es' kk px) (gTup X.K 2 (gCons (gName n) (gCons (gName m) gNil)))) (hs : swapsWithSole [.Tuple es' kk px] e pos.line X.env = pure false := by rfl) (hw : swappedStores [.Tuple es' kk px] e X.env = pure none := by rfl) (h1 : (assignEach [.Tuple es' kk px] X.env).map (·.2) = [assign (.Tuple es' kk px) X.env] := by rfl) : wS X (.Assign [.Tuple es' kk px] e pos) D σ H :=
  s_unpack (h.go fun v H1 k1 r => by
    obtain ⟨t, xs, rfl, hx, rs⟩ := r.t
    obtain ⟨v1, v2, rfl, r1, r2⟩ := rs.c2
    exact ⟨t, _, rfl, hx, rfl, _, _, rfl, _, _, rfl, rfl, q v1 v2 H1 k1 r1 r2⟩) hg hs hw h1
theorem s_three {D : Ends} {n m l : Nat} {es' : List Expr} {kk : Nat} (h : DD X e σ H (.tuple [d1, d2, d3])) (q : ∀ v1 v2 v3 H1, Kp [] H H1 → Rp X.K H1 v1 d1 → Rp X.K H1 v2 d2 → Rp X.K H1 v3 d3 → D.nx (((σ.set n (some v1)).set m (some v2)).set l (some v3)) H1)
    (hg : PG X (.Tuple es' kk px) (gTup X.K 3 (gCons (gName n) (gCons (gName m) (gCons (gName l) gNil))))) (hs : swapsWithSole [.Tuple es' kk px] e pos.line X.env = pure false := by rfl) (hw : swappedStores [.Tuple es' kk px] e X.env = pure none := by rfl) (h1 : (assignEach [.Tuple es' kk px] X.env).map (·.2) = [assign (.Tuple es' kk px) X.env] := by rfl) : wS X (.Assign [.Tuple es' kk px] e pos) D σ H :=
  s_unpack (h.go fun v H1 k1 r => by
    obtain ⟨t, xs, rfl, hx, rs⟩ := r.t
    obtain ⟨v1, v2, v3, rfl, r1, r2, r3⟩ := rs.c3
    exact ⟨t, _, rfl, hx, rfl, _, _, rfl, _, _, rfl, _, _, rfl, rfl, q v1 v2 v3 H1 k1 r1 r2 r3⟩) hg hs hw h1
end
theorem dI_len (ns : List Int) : (dI ns).length = ns.length := List.length_map _
section
variable {P : Program} {w : World} {K : PySem.W.Frag} {mg : Str → Option Value} {base : Heap}
/-! ### is_order -/
def rIsOrder (ds : List Da) (d : Da) : Prop := ∃ (n : Nat) (o : List Nat), OrdOk n o ∧ n ≤ 4 ∧ ds = [dOrd o, .int (n : Int)] ∧ d = .bool true
theorem upto_rise (n : Nat) : (upto n).Pairwise (· ≤ ·) := by
  unfold upto
  refine List.pairwise_map.mpr ((List.pairwise_lt_range (n := n)).imp fun {a b} h => ?_)
  exact Int.ofNat_le.mpr (Nat.le_of_lt h)
theorem c_isOrder (B : Bt mg) (F : DefAt K mg "is_order" sIsOrder ["thing", "places"]) (cW : Cal P w K mg base 1 "is_whole" ["thing", "low", "high"] (pS K rIsWhole)) : Cal P w K mg base 2 "is_order" ["thing", "places"] (pS K rIsOrder) := by
  refine .mkP F scIsOrder (fun ds d ⟨_, _, _, _, e, _⟩ => by rw [e]; rfl) fun f cdv A outer s H vs E ds d hr rs hR => ?_
  obtain ⟨n, o, ho, hn, rfl, rfl⟩ := hR
  obtain ⟨v1, v2, rfl, r1, r2⟩ := rs.c2
  have ol := ord_len ho
  refine b_cons (s_ifF (Dt.as ?_ (dt_or (dt_not (dt_val (dd_isi (dd_var 0 r1) (fun _ _ r => tup_ty r) (k := true) (by decide +kernel) B.isi B.tuple boot_tuple))) fun _ => dt_ne (dd_len (dd_var 0 r1) B.len) (dd_var 1 r2))) fun H1 k1 => b_nil (b_one (s_retD k1 ?_)))
  · rw [dI_len, List.length_map, ol]
    simp
  · refine (DD.as (by rfl) (dd_and (dd_allT (ds := dI (o.map Int.ofNat)) (dl_map (own := [("one", 2)]) (n := 2) (fun _ => .bool true) (src_tup (dd_var 0 (k1.r r1))) scIsOrder.nd (blkOk_by (own := [("one", 2)]) (N := nIsOrder) (sc := defScope sIsOrder) (by decide +kernel))
      (fun _ _ _ _ _ => pg_name (i := 2) scIsOrder.nd rfl (.inl rfl)) (fun d v H2 hd k2 r s0 H0 C cl fp => ?_) (by rw [dI_len, List.length_map, ol]; omega)) B.all) fun _ => dd_one (dd_sameL (ns := upto n) (dl_sorted (dd_var 0 (k1.r r1)) (by rw [List.length_map, ol]; omega) ?_ (upto_rise n) B.sorted) (dl_listRg (dd_var 1 (k1.r r2)) (by omega) B.list B.range) hr.units)))
    · obtain ⟨i, hi, rfl⟩ := List.mem_map.mp hd
      obtain ⟨q, hq, rfl⟩ := List.mem_map.mp hi
      refine (DD.as ?_ (dd_call cW hr (da_cons (dd_var 2 r) (da_cons dd_int (da_cons (dd_sub (dd_var 1 (k2.r (k1.r r2))) dd_int) da_nil))) ⟨_, _, _, rfl, rfl⟩))
      have := ord_lt ho q hq
      rw [decide_eq_true (show (0 : Int) ≤ Int.ofNat q from Int.natCast_nonneg q), decide_eq_true (show Int.ofNat q ≤ (n : Int) - 1 by show (q : Int) ≤ _; omega)]
      rfl
    · exact (ho.map Int.ofNat).symm
/-! ### is_move, are_moves, is_label_row, is_rule -/
def rIsMove (ds : List Da) (d : Da) : Prop := ∃ (n L : Nat) (m : Mv), MvOk n L m ∧ n ≤ 4 ∧ ds = [dMv m, .int (n : Int), .int (L : Int)] ∧ d = .bool true
theorem within_lt {q L : Nat} (h : q < L) : (decide ((0 : Int) ≤ (q : Int)) && decide ((q : Int) ≤ (L : Int) - 1)) = true := by
  rw [decide_eq_true (show (0 : Int) ≤ (q : Int) by omega), decide_eq_true (show (q : Int) ≤ (L : Int) - 1 by omega)]
  rfl
theorem c_isMove (B : Bt mg) (F : DefAt K mg "is_move" sIsMove ["thing", "places", "labels"]) (cW : Cal P w K mg base 1 "is_whole" ["thing", "low", "high"] (pS K rIsWhole)) (cO : Cal P w K mg base 2 "is_order" ["thing", "places"] (pS K rIsOrder)) : Cal P w K mg base 3 "is_move" ["thing", "places", "labels"] (pS K rIsMove) := by
  refine .mkP F scIsMove (fun ds d ⟨_, _, _, _, _, e, _⟩ => by rw [e]; rfl) fun f cdv A outer s H vs E ds d hr rs hR => ?_
  obtain ⟨n, L, m, hm, hn, rfl, rfl⟩ := hR
  obtain ⟨v1, v2, v3, rfl, r1, r2, r3⟩ := rs.c3
  refine b_cons (s_ifF (Dt.as (by rfl) (dt_or (dt_not (dt_val (dd_isi (dd_var 0 r1) (fun _ _ r => tup_ty r) (k := true) (by decide +kernel) B.isi B.tuple boot_tuple))) fun _ => dt_ne (dd_len (dd_var 0 r1) B.len) dd_int)) fun H1 k1 => b_nil (b_one (s_retD k1 ?_)))
  exact (DD.as (by rfl) (dd_and (dd_call cO hr (da_cons (dd_ix (n := 0) (dd_var 0 (k1.r r1)) dd_int rfl) (da_cons (dd_var 1 (k1.r r2)) da_nil)) ⟨n, m.1, hm.1, hn, rfl, rfl⟩) fun _ =>
    dd_one (DD.as (by rw [within_lt hm.2]) (dd_call cW (hr.mono (by decide)) (da_cons (dd_ix (n := 1) (dd_var 0 (k1.r r1)) dd_int rfl) (da_cons dd_int (da_cons (dd_sub (dd_var 2 (k1.r r3)) dd_int) da_nil))) ⟨_, _, _, rfl, rfl⟩))))
def rAreMoves (ds : List Da) (d : Da) : Prop := ∃ (n L : Nat) (ms : List Mv), ms.length = n ∧ (∀ m ∈ ms, MvOk n L m) ∧ n ≤ 4 ∧ ds = [.tuple (ms.map dMv), .int (n : Int), .int (L : Int)] ∧ d = .bool true
theorem c_areMoves (B : Bt mg) (F : DefAt K mg "are_moves" sAreMoves ["thing", "places", "labels"]) (cM : Cal P w K mg base 3 "is_move" ["thing", "places", "labels"] (pS K rIsMove)) : Cal P w K mg base 4 "are_moves" ["thing", "places", "labels"] (pS K rAreMoves) := by
  refine .mkP F scAreMoves (fun ds d ⟨_, _, _, _, _, _, e, _⟩ => by rw [e]; rfl) fun f cdv A outer s H vs E ds d hr rs hR => ?_
  obtain ⟨n, L, ms, hl, hm, hn, rfl, rfl⟩ := hR
  obtain ⟨v1, v2, v3, rfl, r1, r2, r3⟩ := rs.c3
  refine b_cons (s_ifF (Dt.as ?_ (dt_or (dt_not (dt_val (dd_isi (dd_var 0 r1) (fun _ _ r => tup_ty r) (k := true) (by decide +kernel) B.isi B.tuple boot_tuple))) fun _ => dt_ne (dd_len (dd_var 0 r1) B.len) (dd_var 1 r2))) fun H1 k1 => b_nil (b_one (s_retD k1 ?_)))
  · rw [List.length_map, hl]
    simp
  · refine dd_allT (ds := ms.map dMv) (dl_map (own := [("one", 3)]) (n := 3) (fun _ => .bool true) (src_tup (dd_var 0 (k1.r r1))) scAreMoves.nd (blkOk_by (own := [("one", 3)]) (N := nAreMoves) (sc := defScope sAreMoves) (by decide +kernel))
      (fun _ _ _ _ _ => pg_name (i := 3) scAreMoves.nd rfl (.inl rfl)) (fun d v H2 hd k2 r s0 H0 C cl fp => ?_) (by rw [List.length_map, hl]; omega)) B.all
    obtain ⟨m, hi, rfl⟩ := List.mem_map.mp hd
    exact dd_call cM hr (da_cons (dd_var 3 r) (da_cons (dd_var 1 (k2.r (k1.r r2))) (da_cons (dd_var 2 (k2.r (k1.r r3))) da_nil))) ⟨n, L, m, hm m hi, hn, rfl, rfl⟩
def rIsRow (ds : List Da) (d : Da) : Prop := ∃ (n L : Nat) (l : LRow), RowOk n L l ∧ n ≤ 4 ∧ ds = [dRow l, .int (n : Int), .int (L : Int)] ∧ d = .bool true
theorem c_isLabelRow (B : Bt mg) (F : DefAt K mg "is_label_row" sIsLabelRow ["thing", "places", "labels"]) (cW : Cal P w K mg base 1 "is_whole" ["thing", "low", "high"] (pS K rIsWhole)) (cA : Cal P w K mg base 4 "are_moves" ["thing", "places", "labels"] (pS K rAreMoves)) : Cal P w K mg base 5 "is_label_row" ["thing", "places", "labels"] (pS K rIsRow) := by
  refine .mkP F scIsLabelRow (fun ds d ⟨_, _, _, _, _, e, _⟩ => by rw [e]; rfl) fun f cdv A outer s H vs E ds d hr rs hR => ?_
  obtain ⟨n, L, l, hm, hn, rfl, rfl⟩ := hR
  obtain ⟨v1, v2, v3, rfl, r1, r2, r3⟩ := rs.c3
  refine b_cons (s_ifF (Dt.as (by rfl) (dt_or (dt_not (dt_val (dd_isi (dd_var 0 r1) (fun _ _ r => tup_ty r) (k := true) (by decide +kernel) B.isi B.tuple boot_tuple))) fun _ => dt_ne (dd_len (dd_var 0 r1) B.len) dd_int)) fun H1 k1 => b_nil ?_)
  refine b_cons (s_three (n := 3) (m := 4) (l := 5) (dd_var 0 (k1.r r1)) (fun u1 u2 u3 H2 k2 q1 q2 q3 => ?_) (pg_tup rfl (pgs_cons (pg_name (i := 3) scIsLabelRow.nd rfl (.inl rfl)) (pgs_cons (pg_name (i := 4) scIsLabelRow.nd rfl (.inl rfl)) (pgs_cons (pg_name (i := 5) scIsLabelRow.nd rfl (.inl rfl)) pgs_nil)))))
  have s2 := (k1.trans k2).r r2
  have s3 := (k1.trans k2).r r3
  exact b_one (s_retD (k1.trans k2) (DD.as (by rfl) (dd_and (dd_call cA hr (da_cons (dd_var 3 q1) (da_cons (dd_var 1 s2) (da_cons (dd_var 2 s3) da_nil))) ⟨n, L, l.hits, hm.hl, hm.hits, hn, rfl, rfl⟩) fun _ =>
    dd_and (DD.as (by rw [within_lt hm.out]) (dd_call cW (hr.mono (by decide)) (da_cons (dd_var 4 q2) (da_cons dd_int (da_cons (dd_sub (dd_var 1 s2) dd_int) da_nil))) ⟨_, _, _, rfl, rfl⟩)) fun _ =>
    dd_one (dd_call cA hr (da_cons (dd_var 5 q3) (da_cons (dd_var 1 s2) (da_cons (dd_var 2 s3) da_nil))) ⟨n, L, l.comes, hm.cl, hm.comes, hn, rfl, rfl⟩))))
def rIsRule (ds : List Da) (d : Da) : Prop := ∃ r : Rule, RuleOk r ∧ ds = [dRule r] ∧ d = .bool true
theorem c_isRule (B : Bt mg) (F : DefAt K mg "is_rule" sIsRule ["thing"]) (cW : Cal P w K mg base 1 "is_whole" ["thing", "low", "high"] (pS K rIsWhole)) (cL : Cal P w K mg base 5 "is_label_row" ["thing", "places", "labels"] (pS K rIsRow)) : Cal P w K mg base 6 "is_rule" ["thing"] (pS K rIsRule) := by
  refine .mkP F scIsRule (fun ds d ⟨_, _, e, _⟩ => by rw [e]; rfl) fun f cdv A outer s H vs E ds d hr rs hR => ?_
  obtain ⟨R, hR, rfl, rfl⟩ := hR
  obtain ⟨v1, rfl, r1⟩ := rs.c1
  refine b_cons (s_ifF (Dt.as (by rfl) (dt_or (dt_not (dt_val (dd_isi (dd_var 0 r1) (fun _ _ r => tup_ty r) (k := true) (by decide +kernel) B.isi B.tuple boot_tuple))) fun _ => dt_ne (dd_len (dd_var 0 r1) B.len) dd_int)) fun H1 k1 => b_nil ?_)
  refine b_cons (s_two (n := 1) (m := 2) (dd_var 0 (k1.r r1)) (fun u1 u2 H2 k2 q1 q2 => ?_) (pg_tup rfl (pgs_cons (pg_name (i := 1) scIsRule.nd rfl (by first | exact Or.inl rfl | exact Or.inr rfl)) (pgs_cons (pg_name (i := 2) scIsRule.nd rfl (by first | exact Or.inl rfl | exact Or.inr rfl)) pgs_nil))))
  have h4 : (decide ((1 : Int) ≤ (R.places : Int)) && decide ((R.places : Int) ≤ 4)) = true := by
    have := hR.p1
    have := hR.p4
    rw [decide_eq_true (by omega), decide_eq_true (by omega)] <;> rfl
  refine b_cons (s_ifF (Dt.as (by rfl) (dt_or (dt_not (dt_val (dd_yes h4 (dd_call cW (hr.mono (by decide)) (da_cons (dd_var 1 q1) (da_cons dd_int (da_cons (dd_glob B.places) da_nil))) ⟨_, _, _, rfl, rfl⟩)))) fun _ => dt_not (dt_val (dd_isi (dd_var 2 q2) (fun _ _ r => tup_ty r) (k := true) (by decide +kernel) B.isi B.tuple boot_tuple)))) fun H3 k3 => b_nil ?_)
  have hl : (decide ((1 : Int) ≤ ((R.rows.map dRow).length : Int)) && decide (((R.rows.map dRow).length : Int) ≤ 16)) = true := by
    have := hR.l1
    have := hR.l16
    rw [List.length_map, decide_eq_true (by omega), decide_eq_true (by omega)] <;> rfl
  refine b_cons (s_ifF (Dt.as (by rw [hl] <;> rfl) (dt_not (dt_within dd_int (dd_len (dd_var 2 (k3.r q2)) B.len) (dd_glob B.labels)))) fun H4 k4 => b_nil (b_one (s_retD ((k1.trans k2).trans (k3.trans k4)) ?_)))
  have k34 := k3.trans k4
  refine dd_allT (ds := R.rows.map dRow) (dl_map (own := [("one", 3)]) (n := 3) (fun _ => .bool true) (src_tup (dd_var 2 (k34.r q2))) scIsRule.nd (blkOk_by (own := [("one", 3)]) (N := nIsRule) (sc := defScope sIsRule) (by decide +kernel))
      (fun _ _ _ _ _ => pg_name (i := 3) scIsRule.nd rfl (.inl rfl)) (fun d v H2 hd k2 r s0 H0 C cl fp => ?_) (by rw [List.length_map]; have := hR.l16; omega)) B.all
  obtain ⟨l, hi, rfl⟩ := List.mem_map.mp hd
  refine dd_call cL hr (da_cons (dd_var 3 r) (da_cons (dd_var 1 (k2.r (k34.r q1))) (da_cons (DD.as (by rw [List.length_map]) (dd_len (dd_var 2 (k2.r (k34.r q2))) B.len)) da_nil))) ⟨R.places, R.rows.length, l, hR.rows l hi, hR.p4, rfl, rfl⟩
/-- need_rule: a rule is let through -/
def rNeedRule (ds : List Da) (d : Da) : Prop := ∃ r : Rule, RuleOk r ∧ ds = [dRule r] ∧ d = .none
theorem c_needRule (F : DefAt K mg "need_rule" sNeedRule ["rule"]) (cR : Cal P w K mg base 6 "is_rule" ["thing"] (pS K rIsRule)) : Cal P w K mg base 7 "need_rule" ["rule"] (pS K rNeedRule) := by
  refine .mkP F scNeedRule (fun ds d ⟨_, _, e, _⟩ => by rw [e]; rfl) fun f cdv A outer s H vs E ds d hr rs hR => ?_
  obtain ⟨R, hR, rfl, rfl⟩ := hR
  obtain ⟨v1, rfl, r1⟩ := rs.c1
  exact b_one (s_ifF (Dt.as (by rfl) (dt_not (dt_val (dd_call cR hr (da_cons (dd_var 0 r1) da_nil) ⟨R, hR, rfl, rfl⟩)))) fun H1 k1 => b_nil ⟨k1, .non⟩)
end
end G28
namespace G28
open PySem PySem.Spec PyProof.Rows L2
variable [Tb]
/-! ### two names at once; dicts of ints -/
section
variable {X : Cx} {tg e a b c iter elt : Expr} {es : List Expr} {σ : L2.St} {H H' : Hp} {pos p px : Pos} {d d' d1 d2 d3 : Da} {ds : List Da} {x y : Str} {i j : Int} {k : Nat}
theorem w_args {Q : List V → Hp → Prop} (h : wE X e σ H fun v H1 => wA X es σ H1 fun vs H2 => Q (v :: vs) H2) (hs : starEach (e :: es) X.env = (false, eval e X.env) :: starEach es X.env := by rfl) : wA X (e :: es) σ H Q := wA_of (pa_cons wE_pe wA_pa hs) h
theorem w_args0 {Q : List V → Hp → Prop} (h : Q [] H) : wA X [] σ H Q := wA_of pa_nil h
/-- x, y = a, b -/
theorem s_par (n m : Nat) {D : Ends} {py pt pt2 : Pos} {kt k2 : Nat} (h : wE X a σ H fun v H1 => wE X b σ H1 fun w H2 => D.nx ((σ.set n (some v)).set m (some w)) H2) (hN : X.N.Nodup) (hi : X.N[n]? = some x := by rfl) (hj : X.N[m]? = some y := by rfl) (hij : n ≠ m := by decide) (hc : X.calm = true := by rfl)
    (hx : X.env.scope.names.lookup x = some .local := by rfl) (hy : X.env.scope.names.lookup y = some .local := by rfl) (hw : swappedStores [.Tuple [.Name x px, .Name y py] kt pt] (.Tuple [a, b] k2 pt2) X.env = pure (some [x, y]) := by rfl)
    (hs : swapsWithSole [.Tuple [.Name x px, .Name y py] kt pt] (.Tuple [a, b] k2 pt2) pos.line X.env = pure false := by rfl) (s1 : starEach [a, b] X.env = (false, eval a X.env) :: starEach [b] X.env := by rfl) (s2 : starEach [b] X.env = (false, eval b X.env) :: starEach [] X.env := by rfl) :
    wS X (.Assign [.Tuple [.Name x px, .Name y py] kt pt] (.Tuple [a, b] k2 pt2) pos) D σ H :=
  wS_of (ps_par hc hN hi hj hij hx hy wA_pa hw hs) (w_args (wE_mono h fun v H1 q => w_args (wE_mono q fun w H2 q => w_args0 ⟨v, w, rfl, q⟩) s2) s1)
abbrev KT0 := List (Key × V)
theorem Kp.dk {M : List Addr} (k : Kp M H H') {q : Addr} {kvs : List (Key × V)} (h : H q = some (.dK kvs)) (n : q ∉ M := by simp) : H' q = some (.dK kvs) := k.keep q _ h n fun _ z => by cases z
theorem de_dict (n : Nat) {q : Addr} {kvs : List (Key × V)} (r : H q = some (.dK kvs)) (h : σ[n]? = some (some (.ref q)) := by rfl) (hN : X.N[n]? = some x := by rfl) (hv : Vis X.env.scope x := by first | exact Or.inl rfl | exact Or.inr (Or.inl rfl) | exact Or.inr (Or.inr rfl))
    (hd : (x == ("__debug__" : Str)) = false := by decide) (hcd : (x == ("__classdict__" : Str)) = false := by decide) : De X (.Name x pos) σ H fun v H2 => v = .ref q ∧ H2 q = some (.dK kvs) := .of (pe_var hN hv hd hcd) fun H1 k => ⟨_, h, Kp.refl H1, rfl, k.dk r⟩
theorem w_disp1 {Q : VK} (ha : DD X a σ H (.int i)) (hb : DD X b σ H (.int j)) (q : ∀ p H1, H p = none → Kp [] H H1 → H1 p = some (.dK [(.inl i, .int j)]) → Q (.ref p) H1) : wE X (.Dict [some a] [b] pos) σ H Q :=
  wE_of (pe_disp (pps_cons wE_pe wE_pe pps_nil) rfl rfl (by simp) (by simp)) fun p hp => wE_mono (ha _ (Kp.new hp)) fun x H1 ⟨k1, r1⟩ => wE_mono (hb _ ((Kp.new hp).trans k1)) fun y H2 ⟨k2, r2⟩ => by
    have h2 : H2 p = some (.dK []) := (k1.trans k2).dk upd_same
    refine ⟨h2, [(.inl i, .int j)], ?_, by simp, q p _ hp (((Kp.new hp).trans (k1.trans k2)).close (Kp.wr h2 trivial List.mem_cons_self) hp) upd_same⟩
    rw [r1.i, r2.i] <;> rfl
theorem dd_dget {q : Addr} {kvs : List (Key × V)} (ha : De X a σ H fun v H2 => v = .ref q ∧ H2 q = some (.dK kvs)) (hb : DD X b σ H (.int i)) (hv : valV kvs (.inl i) = some (.int j)) (hu : X.A.units + 1 < cLine) (hs : NoSl b := by intro _ _; rfl) : DD X (.Subscript a b pos) σ H (.int j) :=
  .of (pe_dget hu wE_pe wE_pe hs) fun H1 k => wE_mono (ha H1 k) fun x H2 ⟨k2, r1, h⟩ => wE_mono (hb H2 (k.trans k2)) fun y H3 ⟨k3, r2⟩ => ⟨q, .int j, r1, by
    rw [r2.i]
    have := DGet.k (k := .inl i) (k3.dk h)
    rw [hv] at this
    exact this, k2.trans k3, .int j⟩
theorem dt_dni {q : Addr} {kvs : List (Key × V)} (ha : DD X a σ H (.int i)) (hb : De X b σ H fun v H2 => v = .ref q ∧ H2 q = some (.dK kvs)) (hu : X.A.units + 1 < cLine) (hm : behindInMarks .NotIn b = false := by rfl) : Dt X (.Compare a [.NotIn] [b] pos) σ H (!(valV kvs (.inl i)).isSome) :=
  Dt.of (pt_cmp (pc_dnotin hu wE_pe wE_pe) hm) fun H1 k => wE_mono (ha H1 k) fun x H2 ⟨k2, r1⟩ => wE_mono (hb H2 (k.trans k2)) fun y H3 ⟨k3, r2, h⟩ => by
    refine ⟨q, valV kvs (.inl i), r2, ?_, _, rfl, k2.trans k3, rfl⟩
    rw [r1.i]
    exact DGet.k (k := .inl i) h
theorem dd_lenD {q : Addr} {kvs : List (Key × V)} (ha : De X a σ H fun v H2 => v = .ref q ∧ H2 q = some (.dK kvs)) (hm : X.mg "len" = none) (hg : Gl X "len" := by rfl) (he : starEach [a] X.env = (false, eval a X.env) :: starEach [] X.env := by rfl) (hpl : (backTo pos (starEach [] X.env)).any (·.1) = false := by rfl) : DD X (.Call (.Name "len" p) [a] [] pos) σ H (.int (kvs.length : Int)) :=
  .of (pe_callB call_lenD hg hm PySem.boot_len (pa_cons wE_pe pa_nil he) (he := he) (hpl := hpl)) fun H1 k => wE_mono (ha H1 k) fun x H2 ⟨k2, r1, h⟩ => ⟨q, kvs, by rw [r1], h, k2, .int _⟩
theorem s_dput {D : Ends} {q : Addr} {kvs : List (Key × V)} {px' : Pos} (hv : DD X e σ H (.int j)) (ha : De X a σ H fun v H2 => v = .ref q ∧ H2 q = some (.dK kvs)) (hb : DD X b σ H (.int i)) (hl : kvs.length ≤ 1000) (hu : X.A.units + 1 < cLine) (h : ∀ H1, Kp [] H H1 → H1 q = some (.dK kvs) → D.nx σ (upd H1 q (.dK (putK kvs (.inl i) (.int j)))))
    (hs : swapsWith e (some (.Subscript a b px')) pos.line X.env = pure false := by rfl) : wS X (.Assign [.Subscript a b px'] e pos) D σ H :=
  wS_of (ps_dput hu wE_pe wE_pe wE_pe hs) <| hv.go fun v H1 k1 r1 => wE_mono (ha H1 k1) fun x H2 ⟨k2, r2, h2⟩ => wE_mono (hb H2 (k1.trans k2)) fun y H3 ⟨k3, r3⟩ => ⟨q, _, r2, by
    rw [r3.i, r1.i]
    exact DPut.k (k := .inl i) (k3.dk h2) (Nat.lt_of_le_of_lt hl (by decide)), h H3 ((k1.trans k2).trans k3) (k3.dk h2)⟩
end
end G28
namespace G28
open PySem PySem.Spec PyProof.Rows L2
variable [Tb]
section
variable {P : Program} {w : World} {K : PySem.W.Frag} {mg : Str → Option Value} {base : Heap}
/-! ### is_thing, first_state -/
theorem dd_tp {X : Cx} {es : List Expr} {σ : L2.St} {H : Hp} {pos : Pos} {ds : List Da} {k : Nat} (h : DAs X es σ H ds) (hl : ds.length ≤ 100000 := by first | decide | (simp only [List.length_cons, List.length_nil]; omega)) : DD X (.Tuple es k pos) σ H (.tuple ds) := dd_tup h hl
theorem within_in {lo hi i : Int} (h : lo ≤ i ∧ i ≤ hi) : (decide (lo ≤ i) && decide (i ≤ hi)) = true := by
  rw [decide_eq_true h.1, decide_eq_true h.2]
  rfl
def rIsThing (ds : List Da) (d : Da) : Prop := ∃ i : Int, (0 ≤ i ∧ i ≤ 99) ∧ ds = [.int i] ∧ d = .bool true
theorem c_isThing (B : Bt mg) (F : DefAt K mg "is_thing" sIsThing ["thing"]) (cW : Cal P w K mg base 1 "is_whole" ["thing", "low", "high"] (pS K rIsWhole)) : Cal P w K mg base 2 "is_thing" ["thing"] (pS K rIsThing) := by
  refine .mkP F scIsThing (fun ds d ⟨_, _, e, _⟩ => by rw [e]; rfl) fun f cdv A outer s H vs E ds d hr rs hR => ?_
  obtain ⟨i, hi, rfl, rfl⟩ := hR
  obtain ⟨v1, rfl, r1⟩ := rs.c1
  exact b_one (s_retD (Kp.refl H) (dd_yes (within_in hi) (dd_call cW hr (da_cons (dd_var 0 r1) (da_cons dd_int (da_cons (dd_glob B.thing) da_nil))) ⟨_, _, _, rfl, rfl⟩)))
def rFirstState (ds : List Da) (d : Da) : Prop := ∃ r : Rule, RuleOk r ∧ ds = [dRule r] ∧ d = dSta (first r)
theorem c_firstState (B : Bt mg) (F : DefAt K mg "first_state" sFirstState ["rule"]) : Cal P w K mg base 1 "first_state" ["rule"] (pS K rFirstState) := by
  refine .mkP F scFirstState (fun ds d ⟨_, _, e, _⟩ => by rw [e]; rfl) fun f cdv A outer s H vs E ds d hr rs hR => ?_
  obtain ⟨R, hR, rfl, rfl⟩ := hR
  obtain ⟨v1, rfl, r1⟩ := rs.c1
  exact b_one (s_retD (Kp.refl H) (dd_tp (da_cons (dd_rep (n := R.places) (dd_glob B.blank) (dd_ix (n := 0) (dd_var 0 r1) dd_int rfl) hR.p1 (by have := hR.p4; omega)) (da_cons dd_int da_nil))))
/-! ### is_row, is_state_of -/
structure RowDa (n : Nat) (ns : List Int) : Prop where
  len : ns.length = n
  n4 : n ≤ 4
  rng : ∀ x ∈ ns, -1 ≤ x ∧ x ≤ 99
  one : ∀ x ∈ ns, x ≠ -1 → ns.count x = 1
def rIsRowOf (ds : List Da) (d : Da) : Prop := ∃ (n : Nat) (ns : List Int), RowDa n ns ∧ ds = [.row ns, .int (n : Int)] ∧ d = .bool true
theorem c_isRow (B : Bt mg) (F : DefAt K mg "is_row" sIsRow ["thing", "places"]) (cW : Cal P w K mg base 1 "is_whole" ["thing", "low", "high"] (pS K rIsWhole)) : Cal P w K mg base 2 "is_row" ["thing", "places"] (pS K rIsRowOf) := by
  refine .mkP F scIsRow (fun ds d ⟨_, _, _, e, _⟩ => by rw [e]; rfl) fun f cdv A outer s H vs E ds d hr rs hR => ?_
  obtain ⟨n, ns, hn, rfl, rfl⟩ := hR
  obtain ⟨v1, v2, rfl, r1, r2⟩ := rs.c2
  have hl := hn.len
  have h4 := hn.n4
  refine b_cons (s_ifF (Dt.as ?_ (dt_or (dt_not (dt_val (dd_isi (dd_rt (dd_var 0 r1)) (fun _ _ r => tup_ty r) (k := true) (by decide +kernel) B.isi B.tuple boot_tuple))) fun _ => dt_ne (dd_len (dd_rt (dd_var 0 r1)) B.len) (dd_var 1 r2))) fun H1 k1 => b_nil ?_)
  · rw [dI_len, hl]
    simp
  refine b_cons (s_ifF (Dt.as (by rfl) (dt_not (dt_val (dd_allT (ds := dI ns) (dl_map (own := [("one", 2)]) (n := 2) (fun _ => .bool true) (src_tup (dd_rt (dd_var 0 (k1.r r1)))) scIsRow.nd (blkOk_by (own := [("one", 2)]) (N := nIsRow) (sc := defScope sIsRow) (by decide +kernel))
      (fun _ _ _ _ _ => pg_name (i := 2) scIsRow.nd rfl (.inl rfl)) (fun d v H2 hd k2 r s0 H0 C cl fp => ?_) (by rw [dI_len, hl]; omega)) B.all)))) fun H2 k2 => b_nil (b_one (s_retD (k1.trans k2) ?_)))
  · obtain ⟨i, hi, rfl⟩ := List.mem_map.mp hd
    exact dd_yes (within_in (hn.rng i hi)) (dd_call cW hr (da_cons (dd_var 2 r) (da_cons (dd_glob B.blank) (da_cons (dd_glob B.thing) da_nil))) ⟨_, _, _, rfl, rfl⟩)
  · have k12 := k1.trans k2
    refine dd_allT (ds := dI ns) (dl_map (own := [("one", 2)]) (n := 2) (fun _ => .bool true) (src_tup (dd_rt (dd_var 0 (k12.r r1)))) scIsRow.nd (blkOk_by (own := [("one", 2)]) (N := nIsRow) (sc := defScope sIsRow) (by decide +kernel))
      (fun _ _ _ _ _ => pg_name (i := 2) scIsRow.nd rfl (.inl rfl)) (fun d v H3 hd k3 r s0 H0 C cl fp => ?_) (by rw [dI_len, hl]; omega)) B.all
    obtain ⟨i, hi, rfl⟩ := List.mem_map.mp hd
    refine dd_yes ?_ (dd_or (dd_eq (dd_var 2 r) (dd_glob B.blank)) fun h => dd_one (dd_eq (dd_count (dd_var 0 (k3.r (k12.r r1))) (dd_var 2 r)) dd_int))
    by_cases q : i = -1
    · rw [decide_eq_true q, Bool.true_or]
    · rw [hn.one i hi q, Bool.or_eq_true]
      exact .inr rfl
theorem rowDa_of {r : Rule} {s : Sta} (R : RuleOk r) (S : StaOk r s) : RowDa r.places s.1 := ⟨S.len, R.p4, S.rng, fun x hx h => count_one S hx h⟩
def rIsStateOf (ds : List Da) (d : Da) : Prop := ∃ (r : Rule) (s : Sta), RuleOk r ∧ StaOk r s ∧ ds = [dRule r, dSta s] ∧ d = .bool true
theorem c_isStateOf (B : Bt mg) (F : DefAt K mg "is_state_of" sIsStateOf ["rule", "thing"]) (cW : Cal P w K mg base 1 "is_whole" ["thing", "low", "high"] (pS K rIsWhole)) (cR : Cal P w K mg base 2 "is_row" ["thing", "places"] (pS K rIsRowOf)) : Cal P w K mg base 3 "is_state_of" ["rule", "thing"] (pS K rIsStateOf) := by
  refine .mkP F scIsStateOf (fun ds d ⟨_, _, _, _, e, _⟩ => by rw [e]; rfl) fun f cdv A outer s H vs E ds d hr rs hR => ?_
  obtain ⟨R, S, hR, hS, rfl, rfl⟩ := hR
  obtain ⟨v1, v2, rfl, r1, r2⟩ := rs.c2
  refine b_cons (s_ifF (Dt.as (by rfl) (dt_or (dt_not (dt_val (dd_isi (dd_var 1 r2) (fun _ _ r => tup_ty r) (k := true) (by decide +kernel) B.isi B.tuple boot_tuple))) fun _ => dt_ne (dd_len (dd_var 1 r2) B.len) dd_int)) fun H1 k1 => b_nil (b_one (s_retD k1 ?_)))
  have h2 : (decide ((0 : Int) ≤ (S.2 : Int)) && decide ((S.2 : Int) ≤ ((R.rows.map dRow).length : Int) - 1)) = true := by
    rw [List.length_map]
    exact within_lt hS.lab
  exact DD.as (by rfl) (dd_and (dd_call cR hr (da_cons (dd_ix (n := 0) (dd_var 1 (k1.r r2)) dd_int rfl) (da_cons (dd_ix (n := 0) (dd_var 0 (k1.r r1)) dd_int rfl) da_nil)) ⟨R.places, S.1, rowDa_of hR hS, rfl, rfl⟩) fun _ =>
    dd_one (dd_yes h2 (dd_call cW (hr.mono (by decide)) (da_cons (dd_ix (n := 1) (dd_var 1 (k1.r r2)) dd_int rfl) (da_cons dd_int (da_cons (dd_sub (dd_len (dd_ix (n := 1) (dd_var 0 (k1.r r1)) dd_int rfl) B.len) dd_int) da_nil))) ⟨_, _, _, rfl, rfl⟩)))
/-! ### arranged, step -/
def rArranged (ds : List Da) (d : Da) : Prop := ∃ (ns : List Int) (o : List Nat), (∀ i ∈ o, i < ns.length) ∧ o.length ≤ 4 ∧ ds = [.tuple (dI ns), dOrd o] ∧ d = .row (arr ns o)
theorem dI_at {ns : List Int} {i : Nat} (h : i < ns.length) : (dI ns)[i]? = some (.int (ns.getD i (-1))) := by
  show (ns.map Da.int)[i]? = _
  rw [List.getElem?_map, List.getD, List.getElem?_eq_getElem h]
  rfl
/-- the items of ns at the places of o -/
def atF (ns : List Int) : Da → Da
  | .int i => .int (ns.getD i.toNat (-1))
  | _ => .none
theorem atF_map (ns : List Int) (o : List Nat) : (dI (o.map Int.ofNat)).map (atF ns) = dI (arr ns o) := by
  show ((o.map Int.ofNat).map Da.int).map (atF ns) = (o.map fun i => ns.getD i (-1)).map Da.int
  rw [List.map_map, List.map_map, List.map_map]
  rfl
theorem c_arranged (B : Bt mg) (F : DefAt K mg "arranged" sArranged ["row", "order"]) : Cal P w K mg base 1 "arranged" ["row", "order"] (pS K rArranged) := by
  refine .mkP F scArranged (fun ds d ⟨_, _, _, _, e, _⟩ => by rw [e]; rfl) fun f cdv A outer s H vs E ds d hr rs hR => ?_
  obtain ⟨ns, o, ho, h4, rfl, rfl⟩ := hR
  obtain ⟨v1, v2, rfl, r1, r2⟩ := rs.c2
  refine b_one (s_retD (Kp.refl H) (dd_rowN ?_ B.tuple))
  rw [← atF_map]
  refine dl_map (own := [("at", 2)]) (n := 2) (atF ns) (src_tup (dd_var 1 r2)) scArranged.nd (blkOk_by (own := [("at", 2)]) (N := nArranged) (sc := defScope sArranged) (by decide +kernel))
      (fun _ _ _ _ _ => pg_name (i := 2) scArranged.nd rfl (.inl rfl)) (fun d v H2 hd k2 r s0 H0 C cl fp => ?_) (by rw [dI_len, List.length_map]; omega)
  obtain ⟨i, hi, rfl⟩ := List.mem_map.mp hd
  obtain ⟨q, hq, rfl⟩ := List.mem_map.mp hi
  exact dd_ix (n := q) (dd_var 0 (k2.r r1)) (dd_var 2 r) (dI_at (ho q hq))
def dOpt : Option Int → Da
  | none => .none
  | some i => .int i
def dStep (x : Bool × Option Int × Sta) : Da := .tuple [.bool x.1, dOpt x.2.1, dSta x.2.2]
def rStep (ds : List Da) (d : Da) : Prop := ∃ (r : Rule) (s : Sta) (t : Int), RuleOk r ∧ StaOk r s ∧ ds = [dRule r, dSta s, .int t] ∧ d = dStep (G28.step r s t)
theorem mvs_at {l : List Mv} {i : Nat} (h : i < l.length) : (l.map dMv)[i]? = some (dMv (l.getD i default)) := by
  rw [List.getElem?_map, List.getD, List.getElem?_eq_getElem h]
  rfl
theorem rows_at {r : Rule} {i : Nat} (h : i < r.rows.length) : (r.rows.map dRow)[i]? = some (dRow (lrow r i)) := by
  unfold lrow
  rw [List.getElem?_map, List.getD, List.getElem?_eq_getElem h]
  rfl
theorem fill_is {row : List Int} {p : Nat} {t : Int} (h : p < row.length) : ((dI row).take p ++ [Da.int t]) ++ (dI row).drop (p + 1) = dI (row.set p t) := by
  show ((row.map Da.int).take p ++ [Da.int t]) ++ (row.map Da.int).drop (p + 1) = (row.set p t).map Da.int
  rw [set_split h, List.map_append, List.map_cons, List.map_take, List.map_drop, List.append_assoc]
  rfl
theorem c_step (B : Bt mg) (F : DefAt K mg "step" sStep ["rule", "state", "thing"]) (cA : Cal P w K mg base 1 "arranged" ["row", "order"] (pS K rArranged)) : Cal P w K mg base 2 "step" ["rule", "state", "thing"] (pS K rStep) := by
  refine .mkP F scStep (fun ds d ⟨_, _, _, _, _, e, _⟩ => by rw [e]; rfl) fun f cdv A outer s H vs E ds d hr rs hR => ?_
  obtain ⟨R, S, t, hR, hS, rfl, rfl⟩ := hR
  obtain ⟨v1, v2, v3, rfl, r1, r2, r3⟩ := rs.c3
  have Q := lrow_ok hR hS.lab
  have L4 := hR.p4
  refine b_cons (s_two (n := 3) (m := 4) (dd_var 1 r2) (fun u1 u2 H1 k1 q1 q2 => ?_) (pg_tup rfl (pgs_cons (pg_name (i := 3) scStep.nd rfl (.inl rfl)) (pgs_cons (pg_name (i := 4) scStep.nd rfl (.inl rfl)) pgs_nil))))
  refine b_cons (s_three (n := 5) (m := 6) (l := 7) (dd_ix (n := S.2) (dd_ix (n := 1) (dd_var 0 (k1.r r1)) dd_int rfl) (dd_var 4 q2) (rows_at hS.lab)) (fun w1 w2 w3 H2 k2 g1 g2 g3 => ?_) (pg_tup rfl (pgs_cons (pg_name (i := 5) scStep.nd rfl (.inl rfl)) (pgs_cons (pg_name (i := 6) scStep.nd rfl (.inl rfl)) (pgs_cons (pg_name (i := 7) scStep.nd rfl (.inl rfl)) pgs_nil)))))
  have p1 := k2.r q1
  have p3 := (k1.trans k2).r r3
  have kk := k1.trans k2
  refine b_cons (s_if (dt_in (dd_var 2 p3) (dd_rt (dd_var 3 p1))) (fun hm H3 k3 => ?_) fun hm H3 k3 => b_nil ?_)
  · have hm := of_decide_eq_true hm
    have M := hitM_ok Q hS.len hm
    have hx := List.idxOf_lt_length_iff.mpr hm
    have e : G28.step R S t = (true, none, (arr S.1 (hitM (lrow R S.2) S.1 t).1, (hitM (lrow R S.2) S.1 t).2)) := if_pos hm
    rw [e]
    refine b_cons (s_two (n := 8) (m := 9) (dd_ix (n := S.1.idxOf t) (dd_var 5 (k3.r g1)) (dd_index (dd_var 3 (k3.r p1)) (dd_var 2 (k3.r p3)) hm) (mvs_at (by rw [Q.hl, ← hS.len]; exact hx))) (fun z1 z2 H4 k4 o1 o2 => ?_) (pg_tup rfl (pgs_cons (pg_name (i := 8) scStep.nd rfl (.inl rfl)) (pgs_cons (pg_name (i := 9) scStep.nd rfl (.inl rfl)) pgs_nil))))
    exact b_one (s_retD ((kk.trans k3).trans k4) (dd_tp (da_cons dd_bl (da_cons dd_non (da_cons (dd_tp (da_cons (dd_call cA hr (da_cons (dd_rt (dd_var 3 ((k3.trans k4).r p1))) (da_cons (dd_var 8 o1) da_nil)) ⟨_, _, fun i hi => by rw [hS.len]; exact ord_lt M.1 i hi, Nat.le_trans (Nat.le_of_eq (ord_len M.1)) L4, rfl, rfl⟩) (da_cons (dd_var 9 o2) da_nil))) da_nil)))))
  · have hm := of_decide_eq_false hm
    have M := comeM_ok Q hS.len
    have hp : place (lrow R S.2) S.1 < S.1.length := by rw [hS.len]; exact place_lt Q hS.len
    have e : G28.step R S t = (false, G28.gone (lrow R S.2) S.1, (arr (S.1.set (place (lrow R S.2) S.1) t) (comeM (lrow R S.2) S.1).1, (comeM (lrow R S.2) S.1).2)) := if_neg hm
    rw [e]
    have a1 := k3.r p1
    have a3 := k3.r p3
    refine b_cons (s_set 10 ((de_if (R := fun v H2 => Rp K H2 v (.int (place (lrow R S.2) S.1 : Nat))) (dt_in (dd_glob B.blank) (dd_rt (dd_var 3 a1))) (fun h => ?_) fun h => ?_).go fun x1 H4 k4 b1 => ?_) scStep.nd)
    · have h := of_decide_eq_true h
      refine DD.as ?_ (dd_index (dd_var 3 a1) (dd_glob B.blank) h)
      unfold place
      rw [if_pos h]
    · have h := of_decide_eq_false h
      refine DD.as ?_ (dd_var 6 (k3.r g2))
      unfold place
      rw [if_neg h]
    have ix := dI_at (ns := S.1) hp
    refine b_cons (s_set 11 ((de_if (R := fun v H2 => Rp K H2 v (dOpt (G28.gone (lrow R S.2) S.1))) (dt_eq (dd_ix (n := place (lrow R S.2) S.1) (dd_rt (dd_var 3 (k4.r a1))) (dd_var 10 b1) ix) (dd_glob B.blank)) (fun h => ?_) fun h => ?_).go fun x2 H5 k5 b2 => ?_) scStep.nd)
    · have h := of_decide_eq_true h
      refine DD.as ?_ dd_non
      unfold G28.gone
      rw [if_pos h]
      rfl
    · have h := of_decide_eq_false h
      refine DD.as ?_ (dd_ix (n := place (lrow R S.2) S.1) (dd_rt (dd_var 3 (k4.r a1))) (dd_var 10 b1) ix)
      unfold G28.gone
      rw [if_neg h]
      rfl
    have k45 := k4.trans k5
    refine b_cons (s_two (n := 8) (m := 9) (dd_ix (n := place (lrow R S.2) S.1) (dd_var 7 ((k3.trans k45).r g3)) (dd_var 10 (k5.r b1)) (mvs_at (by rw [Q.cl, ← hS.len]; exact hp))) (fun z1 z2 H6 k6 o1 o2 => ?_) (pg_tup rfl (pgs_cons (pg_name (i := 8) scStep.nd rfl (.inl rfl)) (pgs_cons (pg_name (i := 9) scStep.nd rfl (.inl rfl)) pgs_nil))))
    have k46 := k45.trans k6
    have c1 := k46.r a1
    have c3 := k46.r a3
    have c10 := (k5.trans k6).r b1
    have sl : S.1.length ≤ 4 := by rw [hS.len]; exact L4
    refine b_cons (s_set 12 ((dd_cat (dd_cat (dd_to (n := place (lrow R S.2) S.1) (dd_rt (dd_var 3 c1)) (dd_var 10 c10)) (dd_tp (da_cons (dd_var 2 c3) da_nil)) ?_) (dd_from (n := place (lrow R S.2) S.1 + 1) (dd_rt (dd_var 3 c1)) (DD.as (by rfl) (dd_add (dd_var 10 c10) dd_int))) ?_).go fun x3 H7 k7 b3 => ?_) scStep.nd)
    · rw [List.length_take, dI_len]
      show _ + 1 ≤ _
      omega
    · rw [List.length_append, List.length_take, List.length_drop, dI_len]
      show _ + 1 + _ ≤ _
      omega
    rw [fill_is hp] at b3
    refine b_one (s_retD ((kk.trans k3).trans (k46.trans k7)) (dd_tp (da_cons dd_bl (da_cons (dd_var 11 ((k6.trans k7).r b2)) (da_cons (dd_tp (da_cons (dd_call cA hr (da_cons (dd_var 12 b3) (da_cons (dd_var 8 (k7.r o1)) da_nil)) ⟨_, _, fun i hi => ?_, Nat.le_trans (Nat.le_of_eq (ord_len M.1)) L4, rfl, rfl⟩) (da_cons (dd_var 9 (k7.r o2)) da_nil))) da_nil)))))
    rw [List.length_set, hS.len]
    exact ord_lt M.1 i hi
end
end G28
namespace G28
open PySem PySem.Spec PyProof.Rows L2
variable [Tb]
/-! ### the table of numbers -/
def tabK (acc : List Int) : List (Key × V) := (.inl (-1), .int (-1)) :: acc.mapIdx fun i x => (.inl x, .int (i : Int))
theorem tabK_len (acc : List Int) : (tabK acc).length = acc.length + 1 := by simp [tabK]
theorem tab_val (x : Int) : ∀ (acc : List Int) (n : Nat), valV (acc.mapIdx fun i x => ((.inl x, .int ((n + i : Nat) : Int)) : Key × V)) (.inl x) = if x ∈ acc then some (.int ((n + acc.idxOf x : Nat) : Int)) else none
  | [], n => by simp [valV_nil]
  | y :: acc, n => by
    rw [List.mapIdx_cons]
    by_cases e : y = x
    · subst e
      rw [valV_pos rfl, if_pos List.mem_cons_self, List.idxOf_cons_self] <;> rfl
    · rw [valV_neg (show ¬ ((.inl y : Key) = .inl x) from fun z => e (Sum.inl.inj z))]
      have ih := tab_val x acc (n + 1)
      have e1 : (fun (i : Nat) (x : Int) => ((.inl x, .int ((n + (i + 1) : Nat) : Int)) : Key × V)) = fun i x => (.inl x, .int ((n + 1 + i : Nat) : Int)) := by
        funext i x
        rw [show n + (i + 1) = n + 1 + i by omega]
      show valV (acc.mapIdx fun i x => ((.inl x, .int ((n + (i + 1) : Nat) : Int)) : Key × V)) (.inl x) = _
      rw [e1, ih]
      by_cases q : x ∈ acc
      · have h2 : (y :: acc).idxOf x = acc.idxOf x + 1 := by rw [List.idxOf_cons, beq_eq_false_iff_ne.mpr e] <;> rfl
        rw [if_pos q, if_pos (List.mem_cons_of_mem _ q), h2, show n + 1 + acc.idxOf x = n + (acc.idxOf x + 1) by omega]
      · rw [if_neg q, if_neg (fun z => (List.mem_cons.mp z).elim (fun z => e z.symm) q)]
theorem tabK_val (acc : List Int) (x : Int) : valV (tabK acc) (.inl x) = if x = -1 then some (.int (-1)) else if x ∈ acc then some (.int (acc.idxOf x : Nat)) else none := by
  unfold tabK
  by_cases e : x = -1
  · rw [if_pos e, valV_pos (by rw [e])]
  · rw [if_neg e, valV_neg (show ¬ ((.inl (-1) : Key) = .inl x) from fun z => e (Sum.inl.inj z).symm)]
    have := tab_val x acc 0
    simp only [Nat.zero_add] at this
    exact this
theorem tabK_add {acc : List Int} {x : Int} (h : ¬ (x = -1 ∨ x ∈ acc)) : putK (tabK acc) (.inl x) (.int (acc.length : Int)) = tabK (addK acc x) := by
  have h1 : ¬ x = -1 := fun z => h (.inl z)
  have h2 : ¬ x ∈ acc := fun z => h (.inr z)
  rw [putK_new _ (by rw [tabK_val, if_neg h1, if_neg h2])]
  unfold addK
  rw [if_neg h]
  unfold tabK
  rw [List.mapIdx_append]
  simp
/-- the numbers of a row -/
def numF (k : List Int) : Da → Da
  | .int i => .int (num k i)
  | _ => .none
def renF (k : List Int) : Da → Da
  | .tuple [.row ns, l] => .tuple [.row (ns.map (num k)), l]
  | _ => .none
theorem numF_map (k : List Int) (ns : List Int) : (dI ns).map (numF k) = dI (ns.map (num k)) := by
  show (ns.map Da.int).map (numF k) = (ns.map (num k)).map Da.int
  rw [List.map_map, List.map_map]
  rfl
theorem tabK_num {k : List Int} {x : Int} (h : x = -1 ∨ x ∈ k) : valV (tabK k) (.inl x) = some (.int (num k x)) := by
  rw [tabK_val]
  unfold num
  by_cases e : x = -1
  · rw [if_pos e, if_pos e]
  · rw [if_neg e, if_neg e, if_pos (h.resolve_left e)]
theorem in_known {xs : List Int} {x : Int} (h : x ∈ xs) : x = -1 ∨ x ∈ known xs := by
  by_cases e : x = -1
  · exact .inl e
  · exact .inr (known_mem.mpr ⟨h, e⟩)
section
variable {P : Program} {w : World} {K : PySem.W.Frag} {mg : Str → Option Value} {base : Heap}
/-! ### need_rules, first_pair, start -/
def rNeedRules (ds : List Da) (d : Da) : Prop := ∃ r q : Rule, RuleOk r ∧ RuleOk q ∧ ds = [dRule r, dRule q] ∧ d = .none
theorem c_needRules (F : DefAt K mg "need_rules" sNeedRules ["one", "other"]) (cN : Cal P w K mg base 7 "need_rule" ["rule"] (pS K rNeedRule)) : Cal P w K mg base 8 "need_rules" ["one", "other"] (pS K rNeedRules) := by
  refine .mkP F scNeedRules (fun ds d ⟨_, _, _, _, e, _⟩ => by rw [e]; rfl) fun f cdv A outer s H vs E ds d hr rs hR => ?_
  obtain ⟨R, Q, hR, hQ, rfl, rfl⟩ := hR
  obtain ⟨v1, v2, rfl, r1, r2⟩ := rs.c2
  refine b_cons (s_expr ((dd_call cN hr (da_cons (dd_var 0 r1) da_nil) ⟨R, hR, rfl, rfl⟩).go fun _ H1 k1 _ => ?_))
  exact b_one (s_expr ((dd_call cN hr (da_cons (dd_var 1 (k1.r r2)) da_nil) ⟨Q, hQ, rfl, rfl⟩).go fun _ H2 k2 _ => ⟨k1.trans k2, .non⟩))
def rFirstPair (ds : List Da) (d : Da) : Prop := ∃ r q : Rule, RuleOk r ∧ RuleOk q ∧ ds = [dRule r, dRule q] ∧ d = dPair (first r, first q)
theorem c_firstPair (F : DefAt K mg "first_pair" sFirstPair ["one", "other"]) (cF : Cal P w K mg base 1 "first_state" ["rule"] (pS K rFirstState)) : Cal P w K mg base 2 "first_pair" ["one", "other"] (pS K rFirstPair) := by
  refine .mkP F scFirstPair (fun ds d ⟨_, _, _, _, e, _⟩ => by rw [e]; rfl) fun f cdv A outer s H vs E ds d hr rs hR => ?_
  obtain ⟨R, Q, hR, hQ, rfl, rfl⟩ := hR
  obtain ⟨v1, v2, rfl, r1, r2⟩ := rs.c2
  exact b_one (s_retD (Kp.refl H) (dd_tp (da_cons (dd_call cF hr (da_cons (dd_var 0 r1) da_nil) ⟨R, hR, rfl, rfl⟩) (da_cons (dd_call cF hr (da_cons (dd_var 1 r2) da_nil) ⟨Q, hQ, rfl, rfl⟩) da_nil))))
theorem c_start (F : DefAt K mg "start" sStart ["one", "other"]) (cN : Cal P w K mg base 8 "need_rules" ["one", "other"] (pS K rNeedRules)) (cF : Cal P w K mg base 2 "first_pair" ["one", "other"] (pS K rFirstPair)) : Cal P w K mg base 9 "start" ["one", "other"] (pS K rFirstPair) := by
  refine .mkP F scStart (fun ds d ⟨_, _, _, _, e, _⟩ => by rw [e]; rfl) fun f cdv A outer s H vs E ds d hr rs hR => ?_
  obtain ⟨R, Q, hR, hQ, rfl, rfl⟩ := hR
  obtain ⟨v1, v2, rfl, r1, r2⟩ := rs.c2
  refine b_cons (s_expr ((dd_call cN hr (da_cons (dd_var 0 r1) (da_cons (dd_var 1 r2) da_nil)) ⟨R, Q, hR, hQ, rfl, rfl⟩).go fun _ H1 k1 _ => ?_))
  exact b_one (s_retD k1 (dd_call cF (hr.mono (by decide)) (da_cons (dd_var 0 (k1.r r1)) (da_cons (dd_var 1 (k1.r r2)) da_nil)) ⟨R, Q, hR, hQ, rfl, rfl⟩))
/-! ### named -/
def rNamed (ds : List Da) (d : Da) : Prop := ∃ a b : Sta, a.1.length ≤ 4 ∧ b.1.length ≤ 4 ∧ ds = [dSta a, dSta b] ∧ d = dPair (named a b)
theorem c_named (B : Bt mg) (F : DefAt K mg "named" sNamed ["mine", "its"]) : Cal P w K mg base 1 "named" ["mine", "its"] (pS K rNamed) := by
  refine .mkP F scNamed (fun ds d ⟨_, _, _, _, e, _⟩ => by rw [e]; rfl) fun f cdv A outer s H vs E ds d hr rs hR => ?_
  obtain ⟨a, b, ha, hb, rfl, rfl⟩ := hR
  obtain ⟨v1, v2, rfl, r1, r2⟩ := rs.c2
  have hu := Nat.lt_of_le_of_lt (Nat.add_le_add_left (show 1 ≤ 64 by decide) _) hr.units
  refine b_cons (s_set 2 (w_disp1 (dd_glob B.blank) (dd_glob B.blank) fun D H1 hD k1 h1 => ?_) scNamed.nd)
  have e1 : dI a.1 ++ dI b.1 = dI (a.1 ++ b.1) := List.map_append.symm
  have hl : (a.1 ++ b.1).length ≤ 8 := by rw [List.length_append]; omega
  refine b_cons (s_for (M := [D]) (ds := dI (a.1 ++ b.1)) (fun i σ' H' => (∃ o, σ' = ((start nNamed [v1, v2]).set 2 (some (.ref D))).set 3 o) ∧ H' D = some (.dK (tabK (((a.1 ++ b.1).take i).foldl addK []))))
    (src_tup (DD.as (by rw [e1]) (dd_cat (dd_rt (dd_ix (n := 0) (dd_var 0 (k1.r r1)) dd_int rfl)) (dd_rt (dd_ix (n := 0) (dd_var 1 (k1.r r2)) dd_int rfl)) (by rw [dI_len, dI_len]; omega))))
    (pg_name (i := 3) scNamed.nd rfl (.inl rfl)) (fun H2 k2 => ⟨⟨none, rfl⟩, k2.dk h1⟩) (fun i d v σ' H3 H4 hd k3 hP k4 r => ?_) fun σ' H3 k3 hP => ?_)
  · obtain ⟨⟨o, rfl⟩, hT⟩ := hP
    have hd' : (a.1 ++ b.1)[i]? = some (a.1 ++ b.1)[i]! ∧ d = .int (a.1 ++ b.1)[i]! := by
      rw [List.getElem?_map] at hd
      cases q : (a.1 ++ b.1)[i]? with
      | none => rw [q] at hd; cases hd
      | some x =>
        rw [q] at hd
        rw [List.getElem!_eq_getElem?_getD, q]
        exact ⟨rfl, (Option.some.inj hd).symm⟩
    obtain ⟨hx, rfl⟩ := hd'
    generalize (a.1 ++ b.1)[i]! = x at hx r
    have step1 : ((a.1 ++ b.1).take (i + 1)).foldl addK [] = addK (((a.1 ++ b.1).take i).foldl addK []) x := by
      rw [List.take_add_one, hx, List.foldl_append]
      rfl
    have hT4 := k4.dk hT
    have lt : (((a.1 ++ b.1).take i).foldl addK []).length ≤ 8 := by
      have := fold_len ((a.1 ++ b.1).take i) []
      rw [List.length_nil, List.length_take] at this
      omega
    generalize hacc : ((a.1 ++ b.1).take i).foldl addK [] = acc at hT hT4 lt step1
    refine b_one (s_if (dt_dni (dd_var 3 r) (de_dict 2 hT4) hu) (fun hq H5 k5 => ?_) fun hq H5 k5 => b_nil ⟨k5.to, ⟨_, by rw [List.set_set] <;> rfl⟩, ?_⟩)
    · have hn : ¬ (x = -1 ∨ x ∈ acc) := by
        rw [tabK_val] at hq
        by_cases e : x = -1
        · rw [if_pos e] at hq
          cases hq
        · rw [if_neg e] at hq
          by_cases e2 : x ∈ acc
          · rw [if_pos e2] at hq
            cases hq
          · exact fun z => z.elim e e2
      refine b_one (s_dput (dd_sub (dd_lenD (de_dict 2 (k5.dk hT4)) B.len) dd_int) (de_dict 2 (k5.dk hT4)) (dd_var 3 (k5.r r)) (by rw [tabK_len]; omega) hu fun H6 k6 h6 => ⟨(k5.trans k6).to.trans (Kp.wr h6 trivial List.mem_cons_self), ⟨_, by rw [List.set_set] <;> rfl⟩, ?_⟩)
      rw [step1, ← tabK_add hn, tabK_len, show ((acc.length + 1 : Nat) : Int) - 1 = (acc.length : Int) by omega]
      exact upd_same
    · have hn : x = -1 ∨ x ∈ acc := by
        rw [tabK_val] at hq
        by_cases e : x = -1
        · exact .inl e
        · rw [if_neg e] at hq
          by_cases e2 : x ∈ acc
          · exact .inr e2
          · rw [if_neg e2] at hq
            cases hq
      rw [step1]
      unfold addK
      rw [if_pos hn]
      exact k5.dk hT4
  · obtain ⟨⟨o, rfl⟩, hT⟩ := hP
    rw [dI_len, List.take_of_length_le (Nat.le_refl _)] at hT
    have hT' : H3 D = some (.dK (tabK (known (a.1 ++ b.1)))) := hT
    have k13 : Kp [D] H H3 := k1.to.trans k3
    have kH3 : Kp [] H H3 := (Kp.refl H).close k13 hD
    refine b_one (s_retD kH3 (dd_tupN ?_ B.tuple))
    have e2 : [dSta (named a b).1, dSta (named a b).2] = [dSta a, dSta b].map (renF (known (a.1 ++ b.1))) := rfl
    rw [e2]
    refine dl_pairs (own := [("row", 4), ("label", 5)]) (n := 4) (m := 5) (renF (known (a.1 ++ b.1))) (src_tup (dd_tp (da_cons (dd_var 0 (kH3.r r1)) (da_cons (dd_var 1 (kH3.r r2)) da_nil)))) scNamed.nd (blkOk_by (own := [("row", 4), ("label", 5)]) (N := nNamed) (sc := defScope sNamed) (by decide +kernel))
      (fun _ _ _ _ _ => pg_tup rfl (pgs_cons (pg_name (i := 4) scNamed.nd rfl (.inl rfl)) (pgs_cons (pg_name (i := 5) scNamed.nd rfl (.inl rfl)) pgs_nil)))
      (fun d hd => by
        rcases List.mem_cons.mp hd with h | h
        · exact ⟨_, _, h⟩
        · exact ⟨_, _, List.mem_singleton.mp h⟩)
      (fun d1 d2 w1 w2 H4 hd k4 q1 q2 s0 H0 C cl fp => ?_) (by simp)
    have row : ∃ ns : List Int, d1 = .row ns ∧ ∀ y ∈ ns, y ∈ a.1 ++ b.1 := by
      rcases List.mem_cons.mp hd with h | h
      · cases h
        exact ⟨a.1, rfl, fun y hy => List.mem_append_left _ hy⟩
      · cases List.mem_singleton.mp h
        exact ⟨b.1, rfl, fun y hy => List.mem_append_right _ hy⟩
    obtain ⟨ns, rfl, hns⟩ := row
    refine dd_tp (da_cons (dd_rowN ?_ B.tuple) (da_cons (dd_var 5 q2) da_nil))
    rw [← numF_map]
    refine dl_map (own := [("thing", 3)]) (n := 3) (numF (known (a.1 ++ b.1))) (src_tup (dd_rt (dd_var 4 q1))) scNamed.nd (blkOk_by (own := [("thing", 3)]) (N := nNamed) (by kernel_rfl))
      (fun _ _ _ _ _ => pg_name (i := 3) scNamed.nd rfl (.inl rfl)) (fun d v H5 hd k5 r s1 H01 C1 cl1 fp1 => ?_) ?_
    · obtain ⟨x, hx, rfl⟩ := List.mem_map.mp hd
      exact dd_dget (de_dict 2 (k5.dk (k4.dk hT'))) (dd_var 3 r) (tabK_num (in_known (hns x hx))) hu
    · rw [dI_len]
      rcases List.mem_cons.mp hd with h | h
      · cases h
        omega
      · cases List.mem_singleton.mp h
        omega
end
end G28
namespace G28
open PySem PySem.Spec PyProof.Rows L2
variable [Tb]
theorem most : ∀ (l : List Int), l ≠ [] → ∃ m ∈ l, ∀ y ∈ l, y ≤ m
  | [], h => absurd rfl h
  | [x], _ => ⟨x, List.mem_singleton.mpr rfl, fun y hy => by rw [List.mem_singleton.mp hy]; exact Int.le_refl _⟩
  | x :: z :: l, _ => by
    obtain ⟨m, hm, h⟩ := most (z :: l) (by simp)
    by_cases q : m ≤ x
    · exact ⟨x, List.mem_cons_self, fun y hy => (List.mem_cons.mp hy).elim (fun e => by rw [e]; exact Int.le_refl _) fun e => Int.le_trans (h y e) q⟩
    · exact ⟨m, List.mem_cons_of_mem _ hm, fun y hy => (List.mem_cons.mp hy).elim (fun e => by rw [e]; omega) fun e => h y e⟩
/-- the two rules -/
structure RR2 (r q : Rule) : Prop where
  a : RuleOk r
  b : RuleOk q
/-- an arrangement: a pair of states, named -/
structure Arr (r q : Rule) (A : Sta × Sta) : Prop where
  p : PairOk r q A
  n : nam A = A
theorem Arr.many {r q : Rule} {A : Sta × Sta} (h : RR2 r q) (a : Arr r q A) : 0 ≤ G28.many A ∧ G28.many A ≤ 8 := by
  have := kn_len h.a h.b a.p
  unfold G28.many
  omega
theorem Arr.mv {r q : Rule} {A : Sta × Sta} (h : RR2 r q) (a : Arr r q A) {n : Int} (h0 : 0 ≤ n) (h1 : n ≤ 99) : Arr r q (G28.mv r q A n) := ⟨nam_ok h.a h.b (ask_ok h.a h.b a.p ⟨h0, h1⟩), nam_idem (ask r q A n)⟩
theorem first_arr {r q : Rule} (h : RR2 r q) : PairOk r q (first r, first q) := ⟨first_ok h.a, first_ok h.b⟩
theorem known_blank {xs : List Int} (h : ∀ x ∈ xs, x = -1) : known xs = [] := by
  apply List.eq_nil_iff_forall_not_mem.mpr
  intro y hy
  have := known_mem.mp hy
  exact this.2 (h y this.1)
theorem first_nam (r q : Rule) : nam (first r, first q) = (first r, first q) := by
  have hb : ∀ x ∈ (first r).1 ++ (first q).1, x = -1 := fun x hx => (List.mem_append.mp hx).elim List.eq_of_mem_replicate List.eq_of_mem_replicate
  have key : ∀ s : Sta, (∀ x ∈ s.1, x = -1) → ren (num (known ((first r).1 ++ (first q).1))) s = s := fun s hs => by
    unfold ren
    refine Prod.ext ?_ rfl
    show s.1.map _ = s.1
    have e : s.1.map (num (known ((first r).1 ++ (first q).1))) = s.1.map id := List.map_congr_left fun x hx => by
      rw [hs x hx]
      rfl
    rw [e, List.map_id]
  unfold nam named
  rw [key (first r) fun x hx => List.eq_of_mem_replicate hx, key (first q) fun x hx => List.eq_of_mem_replicate hx]
theorem first_Arr {r q : Rule} (h : RR2 r q) : Arr r q (first r, first q) := ⟨first_arr h, first_nam r q⟩
theorem dSta_dp (s : Sta) : (dSta s).dp = 2 := rfl
theorem dPair_dp (A : Sta × Sta) : (dPair A).dp = 3 := rfl
section
variable {P : Program} {w : World} {K : PySem.W.Frag} {mg : Str → Option Value} {base : Heap}
/-! ### is_pair, is_arrangement, how_many, moved_by, moved -/
def rIsPair (ds : List Da) (d : Da) : Prop := ∃ (r q : Rule) (A : Sta × Sta), RR2 r q ∧ Arr r q A ∧ ds = [dRule r, dRule q, dPair A] ∧ d = .bool true
theorem c_isPair (B : Bt mg) (F : DefAt K mg "is_pair" sIsPair ["one", "other", "thing"]) (cS : Cal P w K mg base 3 "is_state_of" ["rule", "thing"] (pS K rIsStateOf)) (cN : Cal P w K mg base 1 "named" ["mine", "its"] (pS K rNamed)) : Cal P w K mg base 4 "is_pair" ["one", "other", "thing"] (pS K rIsPair) := by
  refine .mkP F scIsPair (fun ds d ⟨_, _, _, _, _, e, _⟩ => by rw [e]; rfl) fun f cdv A outer s H vs E ds d hr rs hR => ?_
  obtain ⟨r, q, A0, hq, hA, rfl, rfl⟩ := hR
  obtain ⟨v1, v2, v3, rfl, r1, r2, r3⟩ := rs.c3
  refine b_cons (s_ifF (Dt.as (by rfl) (dt_or (dt_not (dt_val (dd_isi (dd_var 2 r3) (fun _ _ r => tup_ty r) (k := true) (by decide +kernel) B.isi B.tuple boot_tuple))) fun _ => dt_ne (dd_len (dd_var 2 r3) B.len) dd_int)) fun H1 k1 => b_nil ?_)
  refine b_cons (s_ifF (Dt.as (by rfl) (dt_or (dt_not (dt_val (dd_call cS hr (da_cons (dd_var 0 (k1.r r1)) (da_cons (dd_ix (n := 0) (dd_var 2 (k1.r r3)) dd_int rfl) da_nil)) ⟨r, A0.1, hq.a, hA.p.a, rfl, rfl⟩))) fun _ => dt_not (dt_val (dd_call cS hr (da_cons (dd_var 1 (k1.r r2)) (da_cons (dd_ix (n := 1) (dd_var 2 (k1.r r3)) dd_int rfl) da_nil)) ⟨q, A0.2, hq.b, hA.p.b, rfl, rfl⟩)))) fun H2 k2 => b_nil (b_one (s_retD (k1.trans k2) ?_)))
  have k12 := k1.trans k2
  have l1 : A0.1.1.length ≤ 4 := by rw [hA.p.a.len]; exact hq.a.p4
  have l2 : A0.2.1.length ≤ 4 := by rw [hA.p.b.len]; exact hq.b.p4
  have e : named A0.1 A0.2 = A0 := hA.n
  refine dd_sameD (d := dPair A0) (dd_call cN (hr.mono (by decide)) (da_cons (dd_ix (n := 0) (dd_var 2 (k12.r r3)) dd_int rfl) (da_cons (dd_ix (n := 1) (dd_var 2 (k12.r r3)) dd_int rfl) da_nil)) ⟨A0.1, A0.2, l1, l2, rfl, by rw [e]⟩) (dd_var 2 (k12.r r3)) hr.units (by rw [dPair_dp]; decide)
theorem c_isArrangement (F : DefAt K mg "is_arrangement" sIsArrangement ["one", "other", "thing"]) (cN : Cal P w K mg base 8 "need_rules" ["one", "other"] (pS K rNeedRules)) (cP : Cal P w K mg base 4 "is_pair" ["one", "other", "thing"] (pS K rIsPair)) : Cal P w K mg base 9 "is_arrangement" ["one", "other", "thing"] (pS K rIsPair) := by
  refine .mkP F scIsArrangement (fun ds d ⟨_, _, _, _, _, e, _⟩ => by rw [e]; rfl) fun f cdv A outer s H vs E ds d hr rs hR => ?_
  obtain ⟨r, q, A0, hq, hA, rfl, rfl⟩ := hR
  obtain ⟨v1, v2, v3, rfl, r1, r2, r3⟩ := rs.c3
  refine b_cons (s_expr ((dd_call cN hr (da_cons (dd_var 0 r1) (da_cons (dd_var 1 r2) da_nil)) ⟨r, q, hq.a, hq.b, rfl, rfl⟩).go fun _ H1 k1 _ => ?_))
  exact b_one (s_retD k1 (dd_call cP (hr.mono (by decide)) (da_cons (dd_var 0 (k1.r r1)) (da_cons (dd_var 1 (k1.r r2)) (da_cons (dd_var 2 (k1.r r3)) da_nil))) ⟨r, q, A0, hq, hA, rfl, rfl⟩))
def rHowMany (ds : List Da) (d : Da) : Prop := ∃ (r q : Rule) (A : Sta × Sta), RR2 r q ∧ Arr r q A ∧ ds = [dPair A] ∧ d = .int (G28.many A)
theorem greatest {r q : Rule} {A : Sta × Sta} (hq : RR2 r q) (hA : Arr r q A) : ∃ m, m ∈ A.1.1 ++ A.2.1 ∧ (∀ y ∈ A.1.1 ++ A.2.1, y ≤ m) ∧ m + 1 = G28.many A ∧ (A.1.1 ++ A.2.1).length ≤ 8 := by
  have l1 := hA.p.a.len
  have l2 := hA.p.b.len
  have p1 := hq.a.p1
  have p4 := hq.a.p4
  have q4 := hq.b.p4
  obtain ⟨m, hm, h⟩ := most (A.1.1 ++ A.2.1) (fun z => by
    have := congrArg List.length z
    rw [List.length_append] at this
    simp only [List.length_nil] at this
    omega)
  refine ⟨m, hm, h, ?_, by rw [List.length_append]; omega⟩
  refine most_is (A := A) ?_ ?_
  · rw [hA.n]; exact hm
  · rw [hA.n]; exact h
theorem c_howMany (B : Bt mg) (F : DefAt K mg "how_many" sHowMany ["arrangement"]) : Cal P w K mg base 1 "how_many" ["arrangement"] (pS K rHowMany) := by
  refine .mkP F scHowMany (fun ds d ⟨_, _, _, _, _, e, _⟩ => by rw [e]; rfl) fun f cdv A outer s H vs E ds d hr rs hR => ?_
  obtain ⟨r, q, A0, hq, hA, rfl, rfl⟩ := hR
  obtain ⟨v1, rfl, r1⟩ := rs.c1
  obtain ⟨m, hm, hle, e, hl⟩ := greatest hq hA
  have e1 : dI A0.1.1 ++ dI A0.2.1 = dI (A0.1.1 ++ A0.2.1) := List.map_append.symm
  refine b_one (s_retD (Kp.refl H) (DD.as (show Da.int (m + 1) = _ by rw [e]) (dd_add (dd_maxT (ns := A0.1.1 ++ A0.2.1) (m := m) (DD.as (by rw [e1]) (dd_cat (dd_rt (dd_ix (n := 0) (dd_ix (n := 0) (dd_var 0 r1) dd_int rfl) dd_int rfl)) (dd_rt (dd_ix (n := 0) (dd_ix (n := 1) (dd_var 0 r1) dd_int rfl) dd_int rfl)) ?_)) hm hle (by omega) B.max hr.units) dd_int)))
  rw [dI_len, dI_len, ← List.length_append]
  omega
/-- what a move tells -/
def dMoved (r q : Rule) (A : Sta × Sta) (n : Int) : Da := .tuple [.bool (hit r A.1 n), .bool (hit q A.2 n), dPair (G28.mv r q A n)]
def rMovedBy (ds : List Da) (d : Da) : Prop := ∃ (r q : Rule) (A : Sta × Sta) (n : Int), RR2 r q ∧ PairOk r q A ∧ (0 ≤ n ∧ n ≤ 99) ∧ ds = [dRule r, dRule q, dPair A, .int n] ∧ d = dMoved r q A n
theorem c_movedBy (F : DefAt K mg "moved_by" sMovedBy ["one", "other", "arrangement", "number"]) (cS : Cal P w K mg base 2 "step" ["rule", "state", "thing"] (pS K rStep)) (cN : Cal P w K mg base 1 "named" ["mine", "its"] (pS K rNamed)) : Cal P w K mg base 3 "moved_by" ["one", "other", "arrangement", "number"] (pS K rMovedBy) := by
  refine .mkP F scMovedBy (fun ds d ⟨_, _, _, _, _, _, _, e, _⟩ => by rw [e]; rfl) fun f cdv A outer s H vs E ds d hr rs hR => ?_
  obtain ⟨r, q, A0, n, hq, hA, hn, rfl, rfl⟩ := hR
  obtain ⟨v1, v2, v3, v4, rfl, r1, r2, r3, r4⟩ := rs.c4
  refine b_cons (s_par 4 5 ((dd_call cS hr (da_cons (dd_var 0 r1) (da_cons (dd_ix (n := 0) (dd_var 2 r3) dd_int rfl) (da_cons (dd_var 3 r4) da_nil))) ⟨r, A0.1, n, hq.a, hA.a, rfl, rfl⟩).go fun u1 H1 k1 q1 =>
    (dd_call cS hr (da_cons (dd_var 1 (k1.r r2)) (da_cons (dd_ix (n := 1) (dd_var 2 (k1.r r3)) dd_int rfl) (da_cons (dd_var 3 (k1.r r4)) da_nil))) ⟨q, A0.2, n, hq.b, hA.b, rfl, rfl⟩).go fun u2 H2 k2 q2 => ?_) scMovedBy.nd)
  have q1' := k2.r q1
  have o1 := nxt_ok hq.a hA.a hn
  have o2 := nxt_ok hq.b hA.b hn
  exact b_one (s_retD (k1.trans k2) (dd_tp (da_cons (dd_ix (n := 0) (dd_var 4 q1') dd_int rfl) (da_cons (dd_ix (n := 0) (dd_var 5 q2) dd_int rfl) (da_cons (dd_call cN (hr.mono (by decide)) (da_cons (dd_ix (n := 2) (dd_var 4 q1') dd_int rfl) (da_cons (dd_ix (n := 2) (dd_var 5 q2) dd_int rfl) da_nil))
    ⟨nxt r A0.1 n, nxt q A0.2 n, by rw [o1.len]; exact hq.a.p4, by rw [o2.len]; exact hq.b.p4, rfl, rfl⟩) da_nil)))))
def rMoved (ds : List Da) (d : Da) : Prop := ∃ (r q : Rule) (A : Sta × Sta) (n : Int), RR2 r q ∧ Arr r q A ∧ (0 ≤ n ∧ n ≤ G28.many A) ∧ ds = [dRule r, dRule q, dPair A, .int n] ∧ d = dMoved r q A n
theorem c_moved (F : DefAt K mg "moved" sMoved ["one", "other", "arrangement", "number"]) (cR : Cal P w K mg base 8 "need_rules" ["one", "other"] (pS K rNeedRules)) (cP : Cal P w K mg base 4 "is_pair" ["one", "other", "thing"] (pS K rIsPair)) (cW : Cal P w K mg base 1 "is_whole" ["thing", "low", "high"] (pS K rIsWhole))
    (cH : Cal P w K mg base 1 "how_many" ["arrangement"] (pS K rHowMany)) (cM : Cal P w K mg base 3 "moved_by" ["one", "other", "arrangement", "number"] (pS K rMovedBy)) : Cal P w K mg base 9 "moved" ["one", "other", "arrangement", "number"] (pS K rMoved) := by
  refine .mkP F scMoved (fun ds d ⟨_, _, _, _, _, _, _, e, _⟩ => by rw [e]; rfl) fun f cdv A outer s H vs E ds d hr rs hR => ?_
  obtain ⟨r, q, A0, n, hq, hA, hn, rfl, rfl⟩ := hR
  obtain ⟨v1, v2, v3, v4, rfl, r1, r2, r3, r4⟩ := rs.c4
  have h8 := hA.many hq
  refine b_cons (s_expr ((dd_call cR hr (da_cons (dd_var 0 r1) (da_cons (dd_var 1 r2) da_nil)) ⟨r, q, hq.a, hq.b, rfl, rfl⟩).go fun _ H1 k1 _ => ?_))
  refine b_cons (s_ifF (Dt.as (by rfl) (dt_not (dt_val (dd_call cP (hr.mono (by decide)) (da_cons (dd_var 0 (k1.r r1)) (da_cons (dd_var 1 (k1.r r2)) (da_cons (dd_var 2 (k1.r r3)) da_nil))) ⟨r, q, A0, hq, hA, rfl, rfl⟩)))) fun H2 k2 => b_nil ?_)
  have k12 := k1.trans k2
  refine b_cons (s_ifF (Dt.as (by rfl) (dt_not (dt_val (dd_yes (within_in hn) (dd_call cW (hr.mono (by decide)) (da_cons (dd_var 3 (k12.r r4)) (da_cons dd_int (da_cons (dd_call cH (hr.mono (by decide)) (da_cons (dd_var 2 (k12.r r3)) da_nil) ⟨r, q, A0, hq, hA, rfl, rfl⟩) da_nil))) ⟨_, _, _, rfl, rfl⟩))))) fun H3 k3 => b_nil (b_one (s_retD (k12.trans k3) ?_)))
  have k13 := k12.trans k3
  exact dd_call cM (hr.mono (by decide)) (da_cons (dd_var 0 (k13.r r1)) (da_cons (dd_var 1 (k13.r r2)) (da_cons (dd_var 2 (k13.r r3)) (da_cons (dd_var 3 (k13.r r4)) da_nil)))) ⟨r, q, A0, n, hq, hA.p, ⟨hn.1, by omega⟩, rfl, rfl⟩
end
end G28
namespace G28
open PySem PySem.Spec PyProof.Rows L2
open NdefX (NF FnO NOk CellsAt nok_of nscope_by TabN TabsN)
open LamX (CodeO TabB ExtN)
variable [Tb]
/-! ### promises that need the table; lists as tests; name = [..] -/
/-- data in, data out; the table stands -/
def pT (K : PySem.W.Frag) (R : List Da → Da → Prop) : Sp := fun vs H Q _ => TabOk H ∧ ∃ ds d, RpA K H vs ds ∧ R ds d ∧ ∀ v H', Kp [] H H' → Rp K H' v d → Q v H'
theorem tLc_mono {X : Cx} {tg iter : Expr} {g : TG} {tt : TT} {te : TE} {vs : List Nat} {σ : L2.St} {H : Hp} {Q Q' : VK} (h : tLc (wI X tg iter) g tt te vs σ H Q) (m : ∀ v H', Q v H' → Q' v H') : tLc (wI X tg iter) g tt te vs σ H Q' :=
  wI_mono h fun J H1 z D hD => let ⟨W, w0, f⟩ := z D hD; ⟨W, w0, fun i k H2 w => (f i k H2 w).elim (fun ⟨a, b⟩ => .inl ⟨a, m _ _ b⟩) .inr⟩
section
variable {X : Cx} {tg e a b c iter elt : Expr} {es : List Expr} {σ : L2.St} {H H' : Hp} {pos p px : Pos} {d d' d1 d2 d3 : Da} {ds : List Da} {x y : Str} {i j : Int} {k : Nat} {ps : List Str} {R : List Da → Da → Prop}
theorem dd_callT (G : Cal X.prog X.w X.K X.mg X.base k x ps (pT X.K R)) (hr : Room k X.A) (ht : TabOk H) (ha : DAs X (e :: es) σ H ds) (hR : R ds d) (hg : Gl X x := by rfl) (hdb : (x == ("__debug__" : Str)) = false := by decide)
    (he : starEach (e :: es) X.env = (false, eval e X.env) :: starEach es X.env := by rfl) (hpl : (backTo pos (starEach es X.env)).any (·.1) = false := by rfl) : DD X (.Call (.Name x p) (e :: es) [] pos) σ H d := fun H1 k1 =>
  w_call G hr (wA_mono (ha H1 k1) fun vs H2 ⟨k2, rs⟩ => ⟨(k1.trans k2).tabs ht, ds, d, rs, hR, fun v H3 k3 r => ⟨k2.trans k3, r⟩⟩) hg hdb he hpl
/-- name = [elt for x in iter if test], on one line -/
theorem s_setc (n0 : Nat) {D : Ends} {scope : Scope} {own : List (Str × Nat)} {n : Nat} {test : Expr} {py spos : Pos} (t : Da → Bool) (f : Da → Da) (S : Src [] X (.Name x px) iter σ H ds) (hN : X.N.Nodup) (ok : BlkOk X.N X.env.scope scope own)
    (hg : ∀ (s : Shared) (H : Hp) (C : Addr) (cl : List (Str × Addr)) (fp : List Addr), PG (X.blk s H scope (compEnvC scope cl C X.env) fp) (.Name x px) (gName n))
    (te : ∀ d v H1, d ∈ ds → Kp [] H H1 → Rp X.K H1 v d → ∀ (s : Shared) (H0 : Hp) (C : Addr) (cl : List (Str × Addr)) (fp : List Addr), Dt (X.blk s H0 scope (compEnvC scope cl C X.env) fp) test ((wipe σ (own.map (·.2))).set n (some v)) H1 (t d))
    (el : ∀ d v H1, d ∈ ds → t d = true → Kp [] H H1 → Rp X.K H1 v d → ∀ (s : Shared) (H0 : Hp) (C : Addr) (cl : List (Str × Addr)) (fp : List Addr), DD (X.blk s H0 scope (compEnvC scope cl C X.env) fp) elt ((wipe σ (own.map (·.2))).set n (some v)) H1 (f d))
    (hl : ds.length ≤ 50000) (q : ∀ l H1, Kp [] H H1 → H l = none → RL X.K H1 l ((ds.filter t).map f) → D.nx (σ.set n0 (some (.ref l))) H1) (hy : X.N[n0]? = some y := by rfl) (hyl : X.env.scope.names.lookup y = some .local := by rfl)
    (hw : ∀ v, wipe ((wipe σ (own.map (·.2))).set n (some v)) (own.map (·.2)) = wipe σ (own.map (·.2)) := by intro _; rfl) (hc : X.calm = true := by rfl) (hs : ∀ x, foldedSetIterable iter X.env x = pure x := by intro _; rfl) (hk : X.env.scope.kind = .function := by rfl)
    (hline : (py.line == pos.line) = true := by rfl) (hany : (scope.names.any fun (n, k) => n == y && (k == .local || k == .cell)) = false := by rfl) :
    wS X (.Assign [.Name y py] (.ListComp elt [⟨.Name x px, iter, [test], 0⟩] scope pos) spos) D σ H :=
  wS_of (ps_setLc hc hN hy hyl (sw_true hk hyl hline hany) wI_pi ok hg (fun s H0 C cl fp => pts_one (t := uT X scope test) ⟨fun pins s' σ' H' Q I h => h s H0 C cl fp pins s' I⟩) (te := uE X scope elt) (fun s H0 C cl fp => ⟨fun pins s' σ' H' Q I h => h s H0 C cl fp pins s' I⟩) hs)
    (tLc_mono (comp_core (g := gName n) (tt := uT X scope test) (te := uE X scope elt) t f S hc hN ok hg (fun s H0 C cl fp => pts_one (t := uT X scope test) ⟨fun pins s' σ' H' Q I h => h s H0 C cl fp pins s' I⟩) (fun s H0 C cl fp => ⟨fun pins s' σ' H' Q I h => h s H0 C cl fp pins s' I⟩) hs hl (fun d v H1 Nx hd k1 r nx => nx _ H1 (Kp.refl _) (hw v)
      (fun Q q s H0 C cl fp => wT_mono (te d v H1 hd k1 r s H0 C cl fp H1 (Kp.refl _)) fun b H3 z => by rw [z.2]; exact q H3 z.1) fun hq H3 k3 Q q s H0 C cl fp => wE_mono (el d v H1 hd hq k1 r s H0 C cl fp H3 k3) fun y H4 z => q y H4 z.1 z.2) H (Kp.refl H)) fun v H1 ⟨k1, l, e, hl, r⟩ => by
        subst e
        exact q l H1 k1 hl r)
/-- the same without a test -/
theorem s_setm (n0 : Nat) {D : Ends} {scope : Scope} {own : List (Str × Nat)} {n : Nat} {py spos : Pos} (f : Da → Da) (S : Src [] X (.Name x px) iter σ H ds) (hN : X.N.Nodup) (ok : BlkOk X.N X.env.scope scope own)
    (hg : ∀ (s : Shared) (H : Hp) (C : Addr) (cl : List (Str × Addr)) (fp : List Addr), PG (X.blk s H scope (compEnvC scope cl C X.env) fp) (.Name x px) (gName n))
    (el : ∀ d v H1, d ∈ ds → Kp [] H H1 → Rp X.K H1 v d → ∀ (s : Shared) (H0 : Hp) (C : Addr) (cl : List (Str × Addr)) (fp : List Addr), DD (X.blk s H0 scope (compEnvC scope cl C X.env) fp) elt ((wipe σ (own.map (·.2))).set n (some v)) H1 (f d))
    (hl : ds.length ≤ 50000) (q : ∀ l H1, Kp [] H H1 → H l = none → RL X.K H1 l (ds.map f) → D.nx (σ.set n0 (some (.ref l))) H1) (hy : X.N[n0]? = some y := by rfl) (hyl : X.env.scope.names.lookup y = some .local := by rfl)
    (hw : ∀ v, wipe ((wipe σ (own.map (·.2))).set n (some v)) (own.map (·.2)) = wipe σ (own.map (·.2)) := by intro _; rfl) (hc : X.calm = true := by rfl) (hs : ∀ x, foldedSetIterable iter X.env x = pure x := by intro _; rfl) (hk : X.env.scope.kind = .function := by rfl)
    (hline : (py.line == pos.line) = true := by rfl) (hany : (scope.names.any fun (n, k) => n == y && (k == .local || k == .cell)) = false := by rfl) :
    wS X (.Assign [.Name y py] (.ListComp elt [⟨.Name x px, iter, [], 0⟩] scope pos) spos) D σ H :=
  wS_of (ps_setLc hc hN hy hyl (sw_true hk hyl hline hany) wI_pi ok hg (fun _ _ _ _ _ => pts_nil) (te := uE X scope elt) (fun s H0 C cl fp => ⟨fun pins s' σ' H' Q I h => h s H0 C cl fp pins s' I⟩) hs)
    (tLc_mono (comp_core (g := gName n) (tt := tYes) (te := uE X scope elt) (fun _ => true) f S hc hN ok hg (fun _ _ _ _ _ => pts_nil) (fun s H0 C cl fp => ⟨fun pins s' σ' H' Q I h => h s H0 C cl fp pins s' I⟩) hs hl (fun d v H1 Nx hd k1 r nx => nx _ H1 (Kp.refl _) (hw v) (fun Q q => q H1 (Kp.refl _)) fun _ H3 k3 Q q s H0 C cl fp =>
      wE_mono (el d v H1 hd k1 r s H0 C cl fp H3 k3) fun y H4 z => q y H4 z.1 z.2) H (Kp.refl H)) fun v H1 ⟨k1, l, e, hl, r⟩ => by
        subst e
        rw [show ds.filter (fun _ => true) = ds from List.filter_eq_self.mpr fun _ _ => rfl] at r
        exact q l H1 k1 hl r)
/-- a list as a test -/
theorem dt_lst {l : Addr} (h : De X e σ H fun v H2 => v = .ref l ∧ RL X.K H2 l ds) (he : ∀ whole, isTrue e X.env whole = (do let v ← whole; standAt e.pos; holding [v] (truthy v)) := by intro _; rfl) : Dt X e σ H (!ds.isEmpty) :=
  Dt.of (pt_truth wE_pe he) fun H1 q => wE_mono (h H1 q) fun x H2 ⟨k2, r, xs, hx, rs⟩ => ⟨!xs.isEmpty, by
    subst r
    exact .inl ⟨xs, .inl (.of hx), rfl⟩, k2, by
    cases rs <;> rfl⟩
/-- a list is not None -/
theorem dt_lstN {l : Addr} (ha : De X a σ H fun v _ => v = .ref l) {k : Nat} {pos' : Pos} : Dt X (.Compare a [.Is] [.Constant .none k pos'] pos) σ H false :=
  Dt.of (pt_cmp (pc_isN wE_pe)) fun H1 q => wE_mono (ha H1 q) fun x H2 ⟨k2, r1⟩ => ⟨_, rfl, k2, by rw [r1] <;> rfl⟩
/-- the last item -/
theorem dd_last {l : Addr} (ha : De X a σ H fun v H2 => v = .ref l ∧ RL X.K H2 l (ds ++ [d])) (hb : DD X b σ H (.int (-1))) (hs : PlainIx b := by intro _ _; rfl) : DD X (.Subscript a b pos) σ H d :=
  .of (pe_ix ix_list wE_pe wE_pe hs) (De.two ha hb fun x y H1 H2 H3 _ r1 k2 k3 r2 => by
    obtain ⟨rfl, xs, hx, rs⟩ := r1
    have hn : (ds ++ [d])[ds.length]? = some d := by simp
    obtain ⟨v, hv, rv⟩ := rs.at hn
    have hl := rs.len
    rw [List.length_append] at hl
    have e : xs = xs.take ds.length ++ [v] := by
      have q := List.take_add_one (l := xs) (i := ds.length)
      rw [List.take_of_length_le (by rw [hl]; exact Nat.le_refl _), hv] at q
      exact q
    refine ⟨l, xs, -1, v, rfl, r2.i, .of (k3.l hx), ?_, k2.trans k3, k3.r rv⟩
    rw [e]
    exact atI_last _ _)
end
/-! ### data behind the hidden cells -/
section
variable {K : PySem.W.Frag} {cl : List (Str × Addr)} {H0 H' : Hp}
theorem shw_at (free : ∀ b, InC cl b → H' b = none) {b : Addr} {o : HO} (h : H' b = some o) : shw cl H0 H' b = some o := by
  rw [shw_out fun z => by rw [free b z] at h; cases h]
  exact h
theorem shw_t (free : ∀ b, InC cl b → H' b = none) {a : Addr} {xs : List V} (h : SqT K H' a xs) : SqT K (shw cl H0 H') a xs := by
  rcases h with (h | ⟨o, h⟩) | h
  · exact .inl (.inl (shw_at free h))
  · exact .inl (.inr ⟨o, shw_at free h⟩)
  · exact .inr h
theorem Rp.shown (free : ∀ b, InC cl b → H' b = none) {v : V} {d : Da} (r : Rp K H' v d) : Rp K (shw cl H0 H') v d := r.mo (fun _ _ q => shw_t free q) fun _ _ _ h => shw_at free h
theorem RpA.shown (free : ∀ b, InC cl b → H' b = none) {vs : List V} {ds : List Da} (r : RpA K H' vs ds) : RpA K (shw cl H0 H') vs ds := r.mo (fun _ _ q => shw_t free q) fun _ _ _ h => shw_at free h
end
end G28
namespace G28
open PySem PySem.Spec PyProof.Rows L2
variable [Tb]
/-! ### the law's pen: [x, y, n], mutated -/
def Pen (H : Hp) (p : Addr) (b : Nat) : Prop := ∃ x y : Int, ∃ n : Nat, H p = some (.lst [.int x, .int y, .int (n : Int)]) ∧ 0 ≤ x ∧ 0 ≤ y ∧ y < 1000000007 ∧ n ≤ b
theorem Pen.up {M : List Addr} {H H' : Hp} {p : Addr} {b : Nat} (h : Pen H p b) (k : Kp M H H') (n : p ∉ M := by simp) : Pen H' p b := by
  obtain ⟨x, y, m, h, r⟩ := h
  exact ⟨x, y, m, k.l h n, r⟩
theorem Pen.le {H : Hp} {p : Addr} {b c : Nat} (h : Pen H p b) (l : b ≤ c) : Pen H p c := by
  obtain ⟨x, y, m, h, r1, r2, r3, r4⟩ := h
  exact ⟨x, y, m, h, r1, r2, r3, Nat.le_trans r4 l⟩
theorem Pen.rl {K : PySem.W.Frag} {H : Hp} {p : Addr} {x y n : Int} (h : H p = some (.lst [.int x, .int y, .int n])) : RL K H p [.int x, .int y, .int n] := ⟨_, h, .cons (.int x) (.cons (.int y) (.cons (.int n) .nil))⟩
theorem set_st {xs : List V} {n : Nat} (h : n < xs.length) : ixN xs.length (n : Int) = some n := by
  unfold ixN
  rw [if_pos (by omega), if_pos (by omega)]
  rfl
section
variable {K : PySem.W.Frag}
theorem Kp.s {M : List Addr} {H H' : Hp} (k : Kp M H H') {a : Addr} {xs : List V} (h : SqL K H a xs) (n : a ∉ M := by simp) : SqL K H' a xs := by
  rcases h with (h | ⟨o, h⟩) | h
  · exact .inl (.inl (k.l h n))
  · exact .inl (.inr ⟨o, k.frz _ _ _ h⟩)
  · exact .inr h
end
section
variable {X : Cx} {a b e : Expr} {σ : L2.St} {H : Hp} {pos p px' : Pos} {ds : List Da} {d : Da} {j : Int} {x : Str}
theorem de_seq (n : Nat) {l : Addr} {xs : List V} (r : SqL X.K H l xs) (h : σ[n]? = some (some (.ref l)) := by rfl) (hN : X.N[n]? = some x := by rfl) (hv : Vis X.env.scope x := by first | exact Or.inl rfl | exact Or.inr (Or.inl rfl) | exact Or.inr (Or.inr rfl))
    (hd : (x == ("__debug__" : Str)) = false := by decide) (hcd : (x == ("__classdict__" : Str)) = false := by decide) : De X (.Name x pos) σ H fun v H2 => v = .ref l ∧ SqL X.K H2 l xs := .of (pe_var hN hv hd hcd) fun H1 k => ⟨_, h, Kp.refl H1, rfl, k.s r⟩
theorem dd_lenS {l : Addr} {xs : List V} (ha : De X a σ H fun v H2 => v = .ref l ∧ SqL X.K H2 l xs) (hm : X.mg "len" = none) (hg : Gl X "len" := by rfl) (he : starEach [a] X.env = (false, eval a X.env) :: starEach [] X.env := by rfl) (hpl : (backTo pos (starEach [] X.env)).any (·.1) = false := by rfl) : DD X (.Call (.Name "len" p) [a] [] pos) σ H (.int (xs.length : Int)) :=
  .of (pe_callB call_len_seq hg hm PySem.boot_len (pa_cons wE_pe pa_nil he) (he := he) (hpl := hpl)) fun H1 k => wE_mono (ha H1 k) fun x H2 ⟨k2, r1, h⟩ => ⟨l, xs, by rw [r1], .inl h, k2, .int _⟩
theorem dd_ixS {l : Addr} {ns : List Int} {n : Nat} (ha : De X a σ H fun v H2 => v = .ref l ∧ SqL X.K H2 l (ns.map V.int)) (hb : DD X b σ H (.int (n : Int))) (hn : n < ns.length) (hs : PlainIx b := by intro _ _; rfl) : DD X (.Subscript a b pos) σ H (.int (ns.getD n 0)) :=
  .of (pe_ix ix_list wE_pe wE_pe hs) (De.two ha hb fun x y H1 H2 H3 _ r1 k2 k3 r2 => by
    obtain ⟨rfl, hx⟩ := r1
    refine ⟨l, _, (n : Int), .int (ns.getD n 0), rfl, r2.i, k3.s hx, atI_nat ?_, k2.trans k3, .int _⟩
    rw [List.getElem?_map, List.getD, List.getElem?_eq_getElem hn]
    rfl)
/-- l[k] = e -/
theorem s_lset {D : Ends} {l : Addr} {xs : List V} {n : Nat} (hv : De X e σ H fun v H2 => Rp X.K H2 v d) (ha : De X a σ H fun v _ => v = .ref l) (hl : H l = some (.lst xs)) (hb : DD X b σ H (.int (n : Int))) (hn : n < xs.length) (h : ∀ v H1, Kp [] H H1 → Rp X.K H1 v d → H1 l = some (.lst xs) → D.nx σ (upd H1 l (.lst (xs.set n v))))
    (hs : swapsWithSole [.Subscript a b px'] e pos.line X.env = pure false := by rfl) (hw : swappedStores [.Subscript a b px'] e X.env = pure none := by rfl) (h1 : (assignEach [.Subscript a b px'] X.env).map (·.2) = [assign (.Subscript a b px') X.env] := by rfl)
    (hi : ∀ v, assign (.Subscript a b px') X.env v = (do
      let ov ← holding [v] (eval a X.env)
      let iv ← holding [v, ov] (eval b X.env)
      standAt px'
      holding [v, ov, iv] (setItem ov iv v)
      release [v, ov, iv] []) := by intro _; rfl) : wS X (.Assign [.Subscript a b px'] e pos) D σ H :=
  wS_of (ps_asg wE_pe (pg_sub wE_pe wE_pe set_list hi) hs hw h1) <| hv.go fun v H1 k1 r1 => wE_mono (ha H1 k1) fun x H2 ⟨k2, r2⟩ => wE_mono (hb H2 (k1.trans k2)) fun y H3 ⟨k3, r3⟩ => by
    have k13 := (k1.trans k2).trans k3
    exact ⟨l, xs, (n : Int), n, r2, r3.i, k13.l hl, set_st hn, h v H3 k13 ((k2.trans k3).r r1) (k13.l hl)⟩
end
section
variable {P : Program} {w : World} {K : PySem.W.Frag} {mg : Str → Option Value} {base : Heap}
/-! ### _law_pen -/
theorem c_pen (B : Bt mg) (F : DefAt K mg "_law_pen" sLwPen ["_law_cell"]) : Cal P w K mg base 1 "_law_pen" ["_law_cell"] (fun vs H Q _ => ∃ i : Int, vs = [.int i] ∧ ∀ p H', Kp [] H H' → H p = none → Pen H' p 0 → Q (.ref p) H') := by
  refine .mkW F scLwPen (fun vs H Q E ⟨i, e, _⟩ => by rw [e]; rfl) fun f cdv A outer s H vs Q E hr hsp => ?_
  obtain ⟨i, rfl, q⟩ := hsp
  refine b_one (s_ret ((dl_lst (da_cons (dd_max2 dd_int (dd_sub (dd_var 0 (.int i)) (dd_pow dd_int dd_int ?_)) B.max) (da_cons (dd_mod (dd_var 0 (.int i)) dd_int (by decide)) (da_cons dd_int da_nil))) (by simp)).go fun v H1 k1 ⟨p, e, hp, xs, hx, rs⟩ => ?_))
  · exact ⟨by decide, by decide, by decide⟩
  · subst e
    refine q p H1 k1 hp ⟨max 0 (i - 10 ^ 18), i % 1000000007, 0, ?_, by omega, by omega, by omega, Nat.le_refl _⟩
    have e : xs = [_, _, _].map V.int := RpA.ints (ns := [_, _, _]) rs
    rw [e] at hx
    exact hx
/-! ### _law_cell_at -/
theorem c_cellAt (B : Bt mg) (F : DefAt K mg "_law_cell_at" sLwCellAt ["_law_script", "_law_k"]) : Cal P w K mg base 1 "_law_cell_at" ["_law_script", "_law_k"] (fun vs H Q _ => ∃ (a : Addr) (ns : List Int) (k : Nat), vs = [.ref a, .int (k : Int)] ∧ SqL K H a (ns.map V.int) ∧ ∀ (i : Int) (H' : Hp), Kp [] H H' → Q (.int i) H') := by
  refine .mkW F scLwCellAt (fun vs H Q E ⟨a, ns, k, e, _⟩ => by rw [e]; rfl) fun f cdv A outer s H vs Q E hr hsp => ?_
  obtain ⟨a, ns, k, rfl, hS, q⟩ := hsp
  refine b_cons (s_if (dt_lt (dd_var 1 (.int k)) (dd_lenS (de_seq 0 hS) B.len)) (fun hk H1 k1 => ?_) fun _ H1 k1 => b_nil (b_one (s_ret (dd_int.go fun v H2 k2 r => ?_))))
  · have hk := of_decide_eq_true hk
    rw [List.length_map] at hk
    exact b_one (s_ret ((dd_ixS (n := k) (de_seq 0 (k1.s hS)) (dd_var 1 (.int k)) (by omega)).go fun v H2 k2 r => by rw [r.i]; exact q _ _ (k1.trans k2)))
  · rw [r.i]
    exact q _ _ (k1.trans k2)
/-! ### _law_draw -/
def spDraw : Sp := fun vs H Q _ => ∃ (p : Addr) (m b : Nat), vs = [.ref p, .int (m : Int)] ∧ Pen H p b ∧ 1 ≤ m ∧ m ≤ 1000 ∧ b ≤ 1000000 ∧ ∀ (i : Nat) (H' : Hp), i < m → Kp [p] H H' → Pen H' p (b + 1) → Q (.int (i : Int)) H'
theorem nat_of {x : Int} {m : Nat} (h0 : 0 ≤ x) (h1 : x < m) : ∃ i : Nat, x = (i : Int) ∧ i < m := ⟨x.toNat, by omega, by omega⟩
theorem c_draw (F : DefAt K mg "_law_draw" sLwDraw ["_law_pen_here", "_law_many_here"]) : Cal P w K mg base 1 "_law_draw" ["_law_pen_here", "_law_many_here"] spDraw := by
  refine .mkW F scLwDraw (fun vs H Q E ⟨p, m, b, e, _⟩ => by rw [e]; rfl) fun f cdv A outer s H vs Q E hr hsp => ?_
  obtain ⟨p, m, b, rfl, ⟨x, y, n, hp, hx, hy, hy2, hn⟩, hm, hm2, hb, q⟩ := hsp
  have rl := fun (H' : Hp) (x' n' : Int) (h : H' p = some (.lst [.int x', .int y, .int n'])) => Pen.rl (K := K) h
  have rm : ∀ H' : Hp, Rp K H' (.int (m : Int)) (.int (m : Int)) := fun _ => .int _
  refine b_cons (s_if (dt_gt (dd_ixL (n := 0) (de_list 0 (rl _ _ _ hp)) dd_int rfl) dd_int) (fun hc H1 k1 => ?_) fun hc H1 k1 => b_nil ?_)
  · have hc := of_decide_eq_true hc
    have h1 := k1.l hp
    refine b_cons (s_set 2 ((dd_mod (dd_ixL (n := 0) (de_list 0 (rl _ _ _ h1)) dd_int rfl) (dd_var 1 (rm _)) (by omega)).go fun v H2 k2 r => ?_) scLwDraw.nd)
    rw [r.i]
    have h2 := k2.l h1
    refine b_cons (s_lset (n := 0) (dd_fdiv (dd_ixL (n := 0) (de_list 0 (rl _ _ _ h2)) dd_int rfl) (dd_var 1 (rm _)) ⟨by omega, by omega⟩) (de_var 0) h2 dd_int (by simp) fun v H3 k3 r3 h3 => ?_)
    have k03 := (k1.trans k2).trans k3
    obtain ⟨i, e, hi⟩ := nat_of (x := x % (m : Int)) (m := m) (Int.emod_nonneg _ (by omega)) (Int.emod_lt_of_pos _ (by omega))
    refine b_one (s_ret ((dd_var 2 (.int _)).go fun v4 H4 k4 r4 => ?_))
    rw [r4.i, e]
    refine q i H4 hi ((k03.to.trans (Kp.wr h3 trivial List.mem_cons_self)).trans k4.to) ⟨x / (m : Int), y, n, ?_, Int.ediv_nonneg hx (by omega), hy, hy2, by omega⟩
    rw [r3.i] at k4
    exact k4.l upd_same
  · have h1 := k1.l hp
    refine b_cons (s_lset (n := 2) (dd_add (dd_ixL (n := 2) (de_list 0 (rl _ _ _ h1)) dd_int rfl) dd_int) (de_var 0) h1 dd_int (by simp) fun v H2 k2 r2 h2 => ?_)
    rw [r2.i]
    have k02 : Kp [p] H (upd H2 p (.lst ([V.int x, .int y, .int (n : Int)].set 2 (.int ((n : Int) + 1))))) := (k1.trans k2).to.trans (Kp.wr (M := [p]) h2 trivial List.mem_cons_self)
    have h3 : (upd H2 p (.lst ([V.int x, .int y, .int (n : Int)].set 2 (.int ((n : Int) + 1))))) p = some (.lst [.int x, .int y, .int ((n : Int) + 1)]) := upd_same
    generalize upd H2 p (.lst ([V.int x, .int y, .int (n : Int)].set 2 (.int ((n : Int) + 1)))) = H3 at k02 h3
    have l3 := rl _ _ _ h3
    refine b_cons (s_set 3 ((dd_mod (dd_mul (dd_add (dd_ixL (n := 1) (de_list 0 l3) dd_int rfl) (dd_mul dd_int (dd_ixL (n := 2) (de_list 0 l3) dd_int rfl) (.inl (by decide)))) (dd_add dd_int (dd_mul dd_int (dd_ixL (n := 2) (de_list 0 l3) dd_int rfl) (.inl (by decide)))) (.inl (by omega))) dd_int (by decide)).go fun v4 H4 k4 r4 => ?_) scLwDraw.nd)
    have b4 : 0 ≤ (y + 17 * ((n : Int) + 1)) * (69621 + 2 * ((n : Int) + 1)) % 2147483647 ∧ (y + 17 * ((n : Int) + 1)) * (69621 + 2 * ((n : Int) + 1)) % 2147483647 < 2147483647 := ⟨Int.emod_nonneg _ (by decide), Int.emod_lt_of_pos _ (by decide)⟩
    generalize (y + 17 * ((n : Int) + 1)) * (69621 + 2 * ((n : Int) + 1)) % 2147483647 = z at r4 b4
    have l4 := rl _ _ _ (k4.l h3)
    refine b_cons (s_set 3 ((dd_mod (dd_add (dd_add (dd_mul (dd_var 3 r4) (dd_var 3 r4) (.inl (by omega))) (dd_mul dd_int (dd_ixL (n := 2) (de_list 0 l4) dd_int rfl) (.inl (by decide)))) dd_int) dd_int (by decide)).go fun v5 H5 k5 r5 => ?_) scLwDraw.nd)
    have b5 : 0 ≤ (z * z + 40503 * ((n : Int) + 1) + 5) % 2147483629 ∧ (z * z + 40503 * ((n : Int) + 1) + 5) % 2147483629 < 2147483629 := ⟨Int.emod_nonneg _ (by decide), Int.emod_lt_of_pos _ (by decide)⟩
    generalize (z * z + 40503 * ((n : Int) + 1) + 5) % 2147483629 = z2 at r5 b5
    refine b_one (s_ret ((dd_mod (dd_fdiv (dd_mod (dd_mul (dd_var 3 r5) dd_int (.inr (by decide))) dd_int (by decide)) dd_int ⟨by decide, by decide⟩) (dd_var 1 (rm _)) (by omega)).go fun v6 H6 k6 r6 => ?_))
    obtain ⟨i, e, hi⟩ := nat_of (x := z2 * 48271 % 2147483647 / 32 % (m : Int)) (m := m) (Int.emod_nonneg _ (by omega)) (Int.emod_lt_of_pos _ (by omega))
    rw [r6.i, e]
    exact q i H6 hi (k02.trans ((k4.trans k5).trans k6).to) ⟨x, y, n + 1, ((k4.trans k5).trans k6).l h3, hx, hy, hy2, by omega⟩
end
end G28
namespace G28
open PySem PySem.Spec PyProof.Rows L2
variable [Tb]
/-! ### promises of those that draw -/
def pP (K : PySem.W.Frag) (c : Nat) (pre : List Da → Prop) (G : List Da → Da → Prop) : Sp := fun vs H Q _ => ∃ (p : Addr) (b : Nat) (vs' : List V) (ds : List Da), vs = .ref p :: vs' ∧ Pen H p b ∧ b + c ≤ 1000000 ∧ RpA K H vs' ds ∧ pre ds ∧ ∀ d v H', G ds d → Kp [p] H H' → Pen H' p (b + c) → Rp K H' v d → Q v H'
theorem Rp.reps {K : PySem.W.Frag} {H : Hp} {v : V} {d : Da} (r : Rp K H v d) : ∀ n : Nat, RpA K H (List.replicate n v) (List.replicate n d)
  | 0 => .nil
  | n + 1 => .cons r (r.reps n)
section
variable {X : Cx} {a b e c0 d0 : Expr} {es : List Expr} {σ : L2.St} {H : Hp} {pos p0 px px' : Pos} {ds : List Da} {d : Da} {j : Int} {x y : Str} {k c : Nat} {ps : List Str} {pre : List Da → Prop} {G : List Da → Da → Prop} {Q : VK}
theorem w_pen (n : Nat) (C : Cal X.prog X.w X.K X.mg X.base k x ps (pP X.K c pre G)) (hr : Room k X.A) {p : Addr} {b : Nat} (hp : Pen H p b) (hb : b + c ≤ 1000000) (ha : DAs X es σ H ds) (hpre : pre ds) (q : ∀ d v H', G ds d → Kp [p] H H' → Pen H' p (b + c) → Rp X.K H' v d → Q v H')
    (hs : σ[n]? = some (some (.ref p)) := by rfl) (hN : X.N[n]? = some y := by rfl) (hv : Vis X.env.scope y := by first | exact Or.inl rfl | exact Or.inr (Or.inl rfl) | exact Or.inr (Or.inr rfl)) (hd : (y == ("__debug__" : Str)) = false := by decide) (hcd : (y == ("__classdict__" : Str)) = false := by decide)
    (hg : Gl X x := by rfl) (hdb : (x == ("__debug__" : Str)) = false := by decide) (he : starEach (.Name y px' :: es) X.env = (false, eval (.Name y px') X.env) :: starEach es X.env := by rfl) (hpl : (backTo pos (starEach es X.env)).any (·.1) = false := by rfl) : wE X (.Call (.Name x px) (.Name y px' :: es) [] pos) σ H Q :=
  w_call C hr (w_args ((de_var n hs hN hv hd hcd).go fun v H1 k1 e => DA.go (fun H2 k2 => ha H2 (k1.trans k2)) fun vs H2 k2 rs =>
    ⟨p, b, vs, ds, by rw [e], (hp.up k1).up k2, hb, rs, hpre, fun d v H' g k3 hp' r => q d v H' g ((k1.trans k2).to.trans k3) hp' r⟩) he) hg hdb he hpl
theorem w_draw (n : Nat) (C : Cal X.prog X.w X.K X.mg X.base 1 "_law_draw" ["_law_pen_here", "_law_many_here"] spDraw) (hr : Room 1 X.A) {p : Addr} {b m : Nat} (hp : Pen H p b) (hb : b ≤ 1000000) (ha : DD X a σ H (.int (m : Int))) (h1 : 1 ≤ m) (h2 : m ≤ 1000) (q : ∀ (i : Nat) H', i < m → Kp [p] H H' → Pen H' p (b + 1) → Q (.int (i : Int)) H')
    (hs : σ[n]? = some (some (.ref p)) := by rfl) (hN : X.N[n]? = some y := by rfl) (hv : Vis X.env.scope y := by first | exact Or.inl rfl | exact Or.inr (Or.inl rfl) | exact Or.inr (Or.inr rfl)) (hd : (y == ("__debug__" : Str)) = false := by decide) (hcd : (y == ("__classdict__" : Str)) = false := by decide)
    (hg : Gl X "_law_draw" := by rfl) (he : starEach [.Name y px', a] X.env = (false, eval (.Name y px') X.env) :: starEach [a] X.env := by rfl) (he2 : starEach [a] X.env = (false, eval a X.env) :: starEach [] X.env := by rfl) (hpl : (backTo pos (starEach [a] X.env)).any (·.1) = false := by rfl) : wE X (.Call (.Name "_law_draw" px) [.Name y px', a] [] pos) σ H Q :=
  w_call C hr (w_args ((de_var n hs hN hv hd hcd).go fun v H1 k1 e => w_args ((ha.up k1).go fun u H2 k2 r => w_args0 ⟨p, m, b, by rw [e, r.i], (hp.up k1).up k2, h1, h2, hb, fun i H' hi k3 hp' => q i H' hi ((k1.trans k2).to.trans k3) hp'⟩) he2) he) hg rfl he hpl
/-- l.pop(e) -/
theorem w_pop {l : Addr} {xs : List V} {apos cpos : Pos} (ho : De X a σ H fun v _ => v = .ref l) (hl : H l = some (.lst xs)) (he : ∀ H1, Kp [] H H1 → wE X e σ H1 fun y H2 => ∃ k : Nat, y = .int (k : Int) ∧ k < xs.length ∧ H2 l = some (.lst xs) ∧ ∀ v, xs[k]? = some v → Q v (upd H2 l (.lst (xs.eraseIdx k)))) (h63 : xs.length ≤ 1000)
    (hbase : attributeBase a "pop" X.env (eval a X.env) = eval a X.env := by rfl)
    (hfew : ((backTo cpos (starEach [e] X.env)).all (fun x => !x.1) && (backToKw cpos (keywordEach [] X.env)).all (fun x => x.1.isSome) && decide ([e].length + ([] : List Keyword).length + (if ([] : List Keyword).isEmpty then 0 else 1) < 30)) = true := by rfl)
    (hline : (apos.endLine == cpos.line) = true := by rfl) (hs : starEach [e] X.env = (false, eval e X.env) :: starEach [] X.env := by rfl) (hpl : (backTo cpos (starEach [] X.env)).any (·.1) = false := by rfl) : wE X (.Call (.Attribute a "pop" apos) [e] [] cpos) σ H Q :=
  wE_of (pe_bm PySem.F.plainAttrs_list PySem.F.slot_list_pop PySem.F.type_list_pop mt_popAt wE_pe (pa_cons wE_pe pa_nil hs) hbase hfew hline hs hpl) <| ho.go fun v H1 k1 r => by
    subst r
    refine ⟨.inl ⟨rfl, _, .of (k1.l hl)⟩, wE_mono (he H1 k1) fun y H2 ⟨k, e1, hk, h2, q⟩ => ⟨l, xs, (k : Int), k, xs[k], rfl, by rw [e1], h2, by omega, by omega, ?_, List.getElem?_eq_getElem hk, q _ (List.getElem?_eq_getElem hk)⟩⟩
    unfold seqIndex?
    simp only []
    rw [if_neg (show ¬ ((k : Int) < 0) by omega)]
    rw [if_pos (by simp; omega)]
    rfl
/-- list(l) -/
theorem dl_copy {l : Addr} (ha : De X a σ H fun v H2 => v = .ref l ∧ RL X.K H2 l ds) (hm : X.mg "list" = none) (hg : Gl X "list" := by rfl) (he : starEach [a] X.env = (false, eval a X.env) :: starEach [] X.env := by rfl) (hpl : (backTo pos (starEach [] X.env)).any (·.1) = false := by rfl) : DL X (.Call (.Name "list" px) [a] [] pos) σ H ds :=
  .of (pe_callTy call_list_of hg hm (by decide +kernel) (pa_cons wE_pe pa_nil he) (he := he) (hpl := hpl)) fun H1 k => wE_mono (ha H1 k) fun x H2 ⟨k2, r1, xs, hx, rs⟩ => ⟨l, xs, by rw [r1], .inl (.of hx), fun q hq => ⟨k2.trans (Kp.new hq), q, rfl, k.fresh (k2.fresh hq), xs, upd_same, (Kp.new (M := []) hq).ra rs⟩⟩
/-- [e] * n -/
theorem dl_times {n : Nat} (ha : DL X a σ H [d]) (hb : DD X b σ H (.int (n : Int))) (hn : n ≤ 1000) : DL X (.BinOp a .Mult b pos) σ H (List.replicate n d) :=
  .of (pe_op op_rep wE_pe wE_pe) (De.two ha hb fun x y H1 H2 H3 k1 r1 k2 k3 r2 => by
    obtain ⟨l, rfl, _, xs, hx, rs⟩ := r1
    cases rs with
    | cons r rs =>
      cases rs
      refine ⟨l, (n : Int), _, rfl, r2.i, k3.l hx, by omega, by omega, ?_, fun q hq => ⟨(k2.trans k3).trans (Kp.new hq), q, rfl, k1.fresh ((k2.trans k3).fresh hq), _, upd_same, ?_⟩⟩
      · show 1 * _ ≤ _
        exact Nat.le_trans (show 1 * ((n : Int)).toNat ≤ 1000 by omega) (small (by decide))
      · rw [Int.toNat_natCast, rep_flat]
        exact ((Kp.new (M := []) hq).r (k3.r r)).reps n)
end
/-! ### the rules of one label -/
theorem frontP : ∀ n < 5, ∀ p < n, (p :: (List.range n).filter (fun i => decide (i ≠ p))).isPerm (List.range n) = true := by decide
def frontO (n p : Nat) : List Nat := p :: (List.range n).filter (fun i => decide (i ≠ p))
theorem frontO_ok {n p : Nat} (h : n ≤ 4) (hp : p < n) : OrdOk n (frontO n p) := List.isPerm_iff.mp (frontP n (by omega) p hp)
def isNot (p : Nat) : Da → Bool
  | .int i => decide (i ≠ (p : Int))
  | _ => false
theorem isNot_map (n p : Nat) : ((dI (upto n)).filter (isNot p)).map id = dI (((List.range n).filter (fun i => decide (i ≠ p))).map Int.ofNat) := by
  rw [List.map_id]
  show (((List.range n).map Int.ofNat).map Da.int).filter (isNot p) = (((List.range n).filter _).map Int.ofNat).map Da.int
  rw [List.map_map, List.map_map, List.filter_map]
  congr 1
  apply List.filter_congr
  intro i _
  show decide ((Int.ofNat i) ≠ (p : Int)) = decide (i ≠ p)
  by_cases h : i = p
  · rw [h]
    simp
  · rw [decide_eq_true (p := i ≠ p) h, decide_eq_true (p := Int.ofNat i ≠ (p : Int)) (fun z => h (Int.ofNat.inj z))]
def zero (o : List Nat) : Mv := (o, 0)
def oneR (n out : Nat) (os1 os2 : List (List Nat)) : Rule := ⟨n, [⟨os1.map zero, out, os2.map zero⟩]⟩
theorem oneR_ok {n out : Nat} {os1 os2 : List (List Nat)} (h1 : 1 ≤ n) (h4 : n ≤ 4) (ho : out < n) (l1 : os1.length = n) (l2 : os2.length = n) (o1 : ∀ o ∈ os1, OrdOk n o) (o2 : ∀ o ∈ os2, OrdOk n o) : RuleOk (oneR n out os1 os2) := by
  refine ⟨h1, h4, Nat.le_refl _, (show (1 : Nat) ≤ 16 by decide), fun lr hl => ?_⟩
  rw [List.mem_singleton.mp hl]
  refine ⟨by rw [List.length_map]; exact l1, fun m hm => ?_, ho, by rw [List.length_map]; exact l2, fun m hm => ?_⟩
  · obtain ⟨o, h, rfl⟩ := List.mem_map.mp hm
    exact ⟨o1 o h, Nat.zero_lt_one⟩
  · obtain ⟨o, h, rfl⟩ := List.mem_map.mp hm
    exact ⟨o2 o h, Nat.zero_lt_one⟩
def fronts (n : Nat) : List (List Nat) := (List.range n).map (frontO n)
theorem fronts_len (n : Nat) : (fronts n).length = n := by simp [fronts]
theorem fronts_ok {n : Nat} (h : n ≤ 4) : ∀ o ∈ fronts n, OrdOk n o := fun o ho => by
  obtain ⟨p, hp, rfl⟩ := List.mem_map.mp ho
  exact frontO_ok h (List.mem_range.mp hp)
theorem upto_mem {n : Nat} {d : Da} (h : d ∈ dI (upto n)) : ∃ i : Nat, d = .int (i : Int) ∧ i < n := by
  obtain ⟨z, hz, rfl⟩ := List.mem_map.mp h
  obtain ⟨i, hi, rfl⟩ := List.mem_map.mp hz
  exact ⟨i, rfl, List.mem_range.mp hi⟩
theorem upto_at {n i : Nat} {d : Da} (h : (dI (upto n))[i]? = some d) : d = .int (i : Int) ∧ i < n := by
  unfold dI upto at h
  rw [List.map_map, List.getElem?_map] at h
  by_cases q : i < n
  · rw [List.getElem?_range q] at h
    exact ⟨(Option.some.inj h).symm, q⟩
  · rw [List.getElem?_eq_none (by rw [List.length_range]; omega)] at h
    cases h
theorem dI_upto_len (n : Nat) : (dI (upto n)).length = n := by rw [dI_len, upto_len]
section
variable {P : Program} {w : World} {K : PySem.W.Frag} {mg : Str → Option Value} {base : Heap}
def rFront (ds : List Da) (d : Da) : Prop := ∃ n p : Nat, p < n ∧ n ≤ 4 ∧ ds = [.int (p : Int), .int (n : Int)] ∧ d = dOrd (frontO n p)
theorem c_front (B : Bt mg) (F : DefAt K mg "_law_front" sLwFront ["_law_place", "_law_places"]) : Cal P w K mg base 1 "_law_front" ["_law_place", "_law_places"] (pS K rFront) := by
  refine .mkP F scLwFront (fun ds d ⟨_, _, _, _, e, _⟩ => by rw [e]; rfl) fun f cdv A outer s H vs E ds d hr rs hR => ?_
  obtain ⟨n, p, hp, h4, rfl, rfl⟩ := hR
  obtain ⟨v1, v2, rfl, r1, r2⟩ := rs.c2
  refine b_one (s_retD (Kp.refl H) (DD.as ?_ (dd_cat (dd_tp (da_cons (dd_var 0 r1) da_nil)) (dd_tupN (dl_filter (own := [("_law_one", 2)]) (n := 2) (isNot p) id (src_range (dd_var 1 r2) (by omega) B.range) scLwFront.nd (blkOk_by (own := [("_law_one", 2)]) (N := nLwFront) (sc := defScope sLwFront) (by decide +kernel))
      (fun _ _ _ _ _ => pg_name (i := 2) scLwFront.nd rfl (.inl rfl)) (fun d v H2 hd k2 r s0 H0 C cl fp => ?_) (fun d v H2 hd _ k2 r s0 H0 C cl fp => dd_var 2 r) (by rw [dI_upto_len]; omega)) B.tuple) ?_)))
  · rw [isNot_map]
    rfl
  · obtain ⟨i, rfl, _⟩ := upto_mem hd
    exact Dt.as (by show (!decide _) = decide _; by_cases h : (i : Int) = p <;> simp [h]) (dt_ne (dd_var 2 r) (dd_var 0 (k2.r r1)))
  · rw [isNot_map, dI_len, List.length_map]
    have := List.length_filter_le (fun i => decide (i ≠ p)) (List.range n)
    rw [List.length_range] at this
    show 1 + _ ≤ _
    omega
def spOne (K : PySem.W.Frag) : Sp := fun vs H Q _ => ∃ (n out : Nat) (l1 l2 : Addr) (os1 os2 : List (List Nat)), vs = [.int (n : Int), .ref l1, .int (out : Int), .ref l2] ∧ RL K H l1 (os1.map dOrd) ∧ RL K H l2 (os2.map dOrd) ∧ os1.length ≤ 4 ∧ os2.length ≤ 4 ∧ ∀ v H', Kp [] H H' → Rp K H' v (dRule (oneR n out os1 os2)) → Q v H'
def withZero : Da → Da := fun d => .tuple [d, .int 0]
theorem zero_map (os : List (List Nat)) : (os.map dOrd).map withZero = (os.map zero).map dMv := by
  rw [List.map_map, List.map_map]
  rfl
theorem c_oneLabel (B : Bt mg) (F : DefAt K mg "_law_one_label" sLwOneLabel ["_law_places", "_law_hit_orders", "_law_out", "_law_come_orders"]) : Cal P w K mg base 1 "_law_one_label" ["_law_places", "_law_hit_orders", "_law_out", "_law_come_orders"] (spOne K) := by
  refine .mkW F scLwOneLabel (fun vs H Q E ⟨_, _, _, _, _, _, e, _⟩ => by rw [e]; rfl) fun f cdv A outer s H vs Q E hr hsp => ?_
  obtain ⟨n, out, l1, l2, os1, os2, rfl, h1, h2, n1, n2, q⟩ := hsp
  refine b_cons (s_par 4 5 ((dl_map (own := [("_law_one", 6)]) (n := 6) withZero (src_old (de_list 1 h1)) scLwOneLabel.nd (blkOk_by (own := [("_law_one", 6)]) (N := nLwOneLabel) (sc := defScope sLwOneLabel) (by decide +kernel)) (fun _ _ _ _ _ => pg_name (i := 6) scLwOneLabel.nd rfl (.inl rfl)) (fun d v H2 hd k2 r s0 H0 C cl fp => dd_tp (da_cons (dd_var 6 r) (da_cons dd_int da_nil))) (by rw [List.length_map]; omega)).go fun u1 H1 k1 ⟨p1, e1, _, g1⟩ =>
    (dl_map (own := [("_law_one", 6)]) (n := 6) withZero (src_old (de_list 3 (k1.rl h2))) scLwOneLabel.nd (blkOk_by (own := [("_law_one", 6)]) (N := nLwOneLabel) (sc := defScope sLwOneLabel) (by decide +kernel)) (fun _ _ _ _ _ => pg_name (i := 6) scLwOneLabel.nd rfl (.inl rfl)) (fun d v H2 hd k2 r s0 H0 C cl fp => dd_tp (da_cons (dd_var 6 r) (da_cons dd_int da_nil))) (by rw [List.length_map]; omega)).go fun u2 H2 k2 ⟨p2, e2, _, g2⟩ => ?_) scLwOneLabel.nd)
  subst e1 e2
  rw [zero_map] at g1 g2
  have g1' := k2.rl g1
  exact b_one (s_ret ((dd_tp (da_cons (dd_var 0 (.int _)) (da_cons (dd_tp (da_cons (dd_tp (da_cons (dd_tupS (de_list 4 g1') B.tuple) (da_cons (dd_var 2 (.int _)) (da_cons (dd_tupS (de_list 5 g2) B.tuple) da_nil)))) da_nil)) da_nil))).go fun v H3 k3 r => q v H3 ((k1.trans k2).trans k3) r))
section
variable {X : Cx} {a b c0 d0 : Expr} {σ : L2.St} {H : Hp} {pos px : Pos}
theorem dd_one1 (C : Cal X.prog X.w X.K X.mg X.base 1 "_law_one_label" ["_law_places", "_law_hit_orders", "_law_out", "_law_come_orders"] (spOne X.K)) (hr : Room 1 X.A) {n out : Nat} {os1 os2 : List (List Nat)} (n1 : os1.length ≤ 4) (n2 : os2.length ≤ 4) (ha : DD X a σ H (.int (n : Int))) (hb : De X b σ H fun v H2 => ∃ l, v = .ref l ∧ RL X.K H2 l (os1.map dOrd)) (hc : DD X c0 σ H (.int (out : Int))) (hd : De X d0 σ H fun v H2 => ∃ l, v = .ref l ∧ RL X.K H2 l (os2.map dOrd))
    (hg : Gl X "_law_one_label" := by rfl) (s1 : starEach [a, b, c0, d0] X.env = (false, eval a X.env) :: starEach [b, c0, d0] X.env := by rfl) (s2 : starEach [b, c0, d0] X.env = (false, eval b X.env) :: starEach [c0, d0] X.env := by rfl) (s3 : starEach [c0, d0] X.env = (false, eval c0 X.env) :: starEach [d0] X.env := by rfl) (s4 : starEach [d0] X.env = (false, eval d0 X.env) :: starEach [] X.env := by rfl) (hpl : (backTo pos (starEach [b, c0, d0] X.env)).any (·.1) = false := by rfl) : DD X (.Call (.Name "_law_one_label" px) [a, b, c0, d0] [] pos) σ H (dRule (oneR n out os1 os2)) := fun H0 k0 =>
  w_call C hr (w_args ((ha.up k0).go fun v1 H1 k1 r1 => w_args ((hb.up (k0.trans k1)).go fun v2 H2 k2 ⟨l1, e1, g1⟩ => w_args ((hc.up ((k0.trans k1).trans k2)).go fun v3 H3 k3 r3 => w_args ((hd.up (((k0.trans k1).trans k2).trans k3)).go fun v4 H4 k4 ⟨l2, e2, g2⟩ => w_args0
    ⟨n, out, l1, l2, os1, os2, by rw [r1.i, e1, r3.i, e2], (k3.trans k4).rl g1, g2, n1, n2, fun v H5 k5 r => ⟨((k1.trans k2).trans (k3.trans k4)).trans k5, r⟩⟩) s4) s3) s2) s1) hg rfl s1 hpl
end
/-- the front orders of a place -/
def frF (n : Nat) : Da → Da
  | .int i => dOrd (frontO n i.toNat)
  | _ => .none
theorem frF_map (n : Nat) : (dI (upto n)).map (frF n) = (fronts n).map dOrd := by
  show (((List.range n).map Int.ofNat).map Da.int).map (frF n) = ((List.range n).map (frontO n)).map dOrd
  rw [List.map_map, List.map_map, List.map_map]
  rfl
def rOneOf (R : Nat → Rule) (ds : List Da) (d : Da) : Prop := ∃ n : Nat, 1 ≤ n ∧ n ≤ 4 ∧ ds = [.int (n : Int)] ∧ d = dRule (R n)
def recentR (n : Nat) : Rule := oneR n (n - 1) (fronts n) (fronts n)
def queueR (n : Nat) : Rule := oneR n (n - 1) (List.replicate n (List.range n)) (fronts n)
def newestR (n : Nat) : Rule := oneR n 0 (fronts n) (fronts n)
theorem recentR_ok {n : Nat} (h1 : 1 ≤ n) (h4 : n ≤ 4) : RuleOk (recentR n) := oneR_ok h1 h4 (by omega) (fronts_len n) (fronts_len n) (fronts_ok h4) (fronts_ok h4)
theorem queueR_ok {n : Nat} (h1 : 1 ≤ n) (h4 : n ≤ 4) : RuleOk (queueR n) := oneR_ok h1 h4 (by omega) (List.length_replicate ..) (fronts_len n) (fun o ho => by rw [List.eq_of_mem_replicate ho]; exact List.Perm.refl _) (fronts_ok h4)
theorem newestR_ok {n : Nat} (h1 : 1 ≤ n) (h4 : n ≤ 4) : RuleOk (newestR n) := oneR_ok h1 h4 (by omega) (fronts_len n) (fronts_len n) (fronts_ok h4) (fronts_ok h4)
theorem c_recent (B : Bt mg) (F : DefAt K mg "_law_recent" sLwRecent ["_law_places"]) (cF : Cal P w K mg base 1 "_law_front" ["_law_place", "_law_places"] (pS K rFront)) (cO : Cal P w K mg base 1 "_law_one_label" ["_law_places", "_law_hit_orders", "_law_out", "_law_come_orders"] (spOne K)) : Cal P w K mg base 2 "_law_recent" ["_law_places"] (pS K (rOneOf recentR)) := by
  refine .mkP F scLwRecent (fun ds d ⟨_, _, _, e, _⟩ => by rw [e]; rfl) fun f cdv A outer s H vs E ds d hr rs hR => ?_
  obtain ⟨n, h1, h4, rfl, rfl⟩ := hR
  obtain ⟨v1, rfl, r1⟩ := rs.c1
  have fl := fronts_len n
  refine b_cons (s_setm 1 (own := [("_law_place", 2)]) (n := 2) (frF n) (src_range (dd_var 0 r1) (by omega) B.range) scLwRecent.nd (blkOk_by (own := [("_law_place", 2)]) (N := nLwRecent) (sc := defScope sLwRecent) (by decide +kernel)) (fun _ _ _ _ _ => pg_name (i := 2) scLwRecent.nd rfl (.inl rfl)) (fun d v H2 hd k2 r s0 H0 C cl fp => ?_) (by rw [dI_upto_len]; omega) fun l H1 k1 _ rl => ?_)
  · obtain ⟨i, rfl, hi⟩ := upto_mem hd
    exact dd_call cF hr (da_cons (dd_var 2 r) (da_cons (dd_var 0 (k2.r r1)) da_nil)) ⟨n, i, hi, h4, rfl, rfl⟩
  · rw [frF_map] at rl
    exact b_one (s_retD k1 (dd_one1 cO hr (by omega) (by omega) (dd_var 0 (k1.r r1)) ((de_list 1 rl).im fun v H2 _ z => ⟨l, z.1, z.2⟩) (DD.as (by rw [show (n : Int) - 1 = ((n - 1 : Nat) : Int) by omega]) (dd_sub (dd_var 0 (k1.r r1)) dd_int)) ((de_list 1 rl).im fun v H2 _ z => ⟨l, z.1, z.2⟩)))
theorem c_newest (B : Bt mg) (F : DefAt K mg "_law_newest" sLwNewest ["_law_places"]) (cF : Cal P w K mg base 1 "_law_front" ["_law_place", "_law_places"] (pS K rFront)) (cO : Cal P w K mg base 1 "_law_one_label" ["_law_places", "_law_hit_orders", "_law_out", "_law_come_orders"] (spOne K)) : Cal P w K mg base 2 "_law_newest" ["_law_places"] (pS K (rOneOf newestR)) := by
  refine .mkP F scLwNewest (fun ds d ⟨_, _, _, e, _⟩ => by rw [e]; rfl) fun f cdv A outer s H vs E ds d hr rs hR => ?_
  obtain ⟨n, h1, h4, rfl, rfl⟩ := hR
  obtain ⟨v1, rfl, r1⟩ := rs.c1
  have fl := fronts_len n
  refine b_cons (s_setm 1 (own := [("_law_place", 2)]) (n := 2) (frF n) (src_range (dd_var 0 r1) (by omega) B.range) scLwNewest.nd (blkOk_by (own := [("_law_place", 2)]) (N := nLwNewest) (sc := defScope sLwNewest) (by decide +kernel)) (fun _ _ _ _ _ => pg_name (i := 2) scLwNewest.nd rfl (.inl rfl)) (fun d v H2 hd k2 r s0 H0 C cl fp => ?_) (by rw [dI_upto_len]; omega) fun l H1 k1 _ rl => ?_)
  · obtain ⟨i, rfl, hi⟩ := upto_mem hd
    exact dd_call cF hr (da_cons (dd_var 2 r) (da_cons (dd_var 0 (k2.r r1)) da_nil)) ⟨n, i, hi, h4, rfl, rfl⟩
  · rw [frF_map] at rl
    exact b_one (s_retD k1 (dd_one1 (out := 0) cO hr (by omega) (by omega) (dd_var 0 (k1.r r1)) ((de_list 1 rl).im fun v H2 _ z => ⟨l, z.1, z.2⟩) dd_int ((de_list 1 rl).im fun v H2 _ z => ⟨l, z.1, z.2⟩)))
theorem reps_map (n : Nat) : List.replicate n (Da.tuple (dI (upto n))) = (List.replicate n (List.range n)).map dOrd := by
  rw [List.map_replicate]
  rfl
theorem c_queue (B : Bt mg) (F : DefAt K mg "_law_queue" sLwQueue ["_law_places"]) (cF : Cal P w K mg base 1 "_law_front" ["_law_place", "_law_places"] (pS K rFront)) (cO : Cal P w K mg base 1 "_law_one_label" ["_law_places", "_law_hit_orders", "_law_out", "_law_come_orders"] (spOne K)) : Cal P w K mg base 2 "_law_queue" ["_law_places"] (pS K (rOneOf queueR)) := by
  refine .mkP F scLwQueue (fun ds d ⟨_, _, _, e, _⟩ => by rw [e]; rfl) fun f cdv A outer s H vs E ds d hr rs hR => ?_
  obtain ⟨n, h1, h4, rfl, rfl⟩ := hR
  obtain ⟨v1, rfl, r1⟩ := rs.c1
  have fl := fronts_len n
  refine b_cons (s_setm 1 (own := [("_law_place", 2)]) (n := 2) (frF n) (src_range (dd_var 0 r1) (by omega) B.range) scLwQueue.nd (blkOk_by (own := [("_law_place", 2)]) (N := nLwQueue) (sc := defScope sLwQueue) (by decide +kernel)) (fun _ _ _ _ _ => pg_name (i := 2) scLwQueue.nd rfl (.inl rfl)) (fun d v H2 hd k2 r s0 H0 C cl fp => ?_) (by rw [dI_upto_len]; omega) fun l H1 k1 _ rl => ?_)
  · obtain ⟨i, rfl, hi⟩ := upto_mem hd
    exact dd_call cF hr (da_cons (dd_var 2 r) (da_cons (dd_var 0 (k2.r r1)) da_nil)) ⟨n, i, hi, h4, rfl, rfl⟩
  · rw [frF_map] at rl
    refine b_one (s_retD k1 (dd_one1 (os1 := List.replicate n (List.range n)) cO hr (by rw [List.length_replicate]; omega) (by omega) (dd_var 0 (k1.r r1)) ((dl_times (dl_lst (da_cons (dd_tupRg (dd_var 0 (k1.r r1)) (by omega) B.tuple B.range) da_nil) (by simp)) (dd_var 0 (k1.r r1)) (by omega)).im fun v H2 _ ⟨l2, e, _, z⟩ => ⟨l2, e, by rw [← reps_map]; exact z⟩) (DD.as (by rw [show (n : Int) - 1 = ((n - 1 : Nat) : Int) by omega]) (dd_sub (dd_var 0 (k1.r r1)) dd_int)) ((de_list 1 rl).im fun v H2 _ z => ⟨l, z.1, z.2⟩)))
end
end G28
namespace G28
open PySem PySem.Spec PyProof.Rows L2
variable [Tb]
section
variable {P : Program} {w : World} {K : PySem.W.Frag} {mg : Str → Option Value} {base : Heap}
abbrev CDraw (P : Program) (w : World) (K : PySem.W.Frag) (mg : Str → Option Value) (base : Heap) : Prop := Cal P w K mg base 1 "_law_draw" ["_law_pen_here", "_law_many_here"] spDraw
/-! ### _law_mixed -/
def spMixed (K : PySem.W.Frag) : Sp := fun vs H Q _ => ∃ (p l : Addr) (b : Nat) (ns : List Int), vs = [.ref p, .ref l] ∧ Pen H p b ∧ l ≠ p ∧ H l = some (.lst (ns.map V.int)) ∧ ns.length ≤ 13 ∧ b + 13 ≤ 1000000 ∧ ∀ (q : Addr) (ms : List Int) (H' : Hp), Kp [p] H H' → Pen H' p (b + 13) → H q = none → RL K H' q (dI ms) → ms.Perm ns → Q (.ref q) H'
theorem erase_perm : ∀ {l : List Int} {k : Nat} (h : k < l.length), (l[k] :: l.eraseIdx k).Perm l
  | x :: l, 0, _ => List.Perm.refl _
  | x :: l, k + 1, h => (List.Perm.swap x (l[k]'(Nat.lt_of_succ_lt_succ h)) (l.eraseIdx k)).trans ((erase_perm (l := l) (k := k) (Nat.lt_of_succ_lt_succ h)).cons x)
theorem map_erase : ∀ (l : List Int) (k : Nat), (l.map V.int).eraseIdx k = (l.eraseIdx k).map V.int
  | [], _ => rfl
  | _ :: _, 0 => rfl
  | x :: l, k + 1 => congrArg (V.int x :: ·) (map_erase l k)
theorem c_mixed (B : Bt mg) (F : DefAt K mg "_law_mixed" sLwMixed ["_law_pen_here", "_law_things"]) (cD : CDraw P w K mg base) : Cal P w K mg base 2 "_law_mixed" ["_law_pen_here", "_law_things"] (spMixed K) := by
  refine .mkW F scLwMixed (fun vs H Q E ⟨_, _, _, _, e, _⟩ => by rw [e]; rfl) fun f cdv A outer s H vs Q E hr hsp => ?_
  obtain ⟨p, l, b, ns, rfl, hp, lp, hl, h13, hb, q⟩ := hsp
  have rl : RL K H l (dI ns) := ⟨_, hl, RpA.of_ints ns⟩
  refine b_cons (s_par 2 3 ((dl_copy (de_list 1 rl) B.list).go fun u1 H1 k1 ⟨r, e1, hr0, xs0, hx0, rs0⟩ => (dl_lst (da_nil) (by simp)).go fun u2 H2 k2 ⟨g, e2, hg0, ys0, hy0, ss0⟩ => ?_) scLwMixed.nd)
  subst e1 e2
  have ex := rs0.ints
  subst ex
  cases ss0
  obtain ⟨x, y, n0, hp0, hpr⟩ := hp
  have rp : r ≠ p := fun z => by rw [z, hp0] at hr0; cases hr0
  have gp : g ≠ p := fun z => by rw [z, k1.l hp0] at hg0; cases hg0
  have gr : g ≠ r := fun z => by rw [z, hx0] at hg0; cases hg0
  have g0 : H g = none := k1.fresh hg0
  have k12 := k1.trans k2
  have pen2 : Pen H2 p b := (Pen.up ⟨x, y, n0, hp0, hpr⟩ k12)
  refine b_cons (s_for (M := [p, r, g]) (ds := dI (upto (dI ns).length)) (fun i σ' H' => ∃ (o : Option V) (xs ys : List Int), σ' = [some (.ref p), some (.ref l), some (.ref r), some (.ref g), o] ∧ Pen H' p (b + i) ∧ H' r = some (.lst (xs.map V.int)) ∧ H' g = some (.lst (ys.map V.int)) ∧ (ys ++ xs).Perm ns ∧ xs.length + i = ns.length)
    (src_range (dd_lenL (de_list 1 (k12.rl rl)) B.len) (by rw [dI_len]; omega) B.range) (pg_name (i := 4) scLwMixed.nd rfl (.inl rfl)) (fun H3 k3 => ⟨none, ns, [], rfl, pen2.up k3, (k2.trans k3).l hx0, k3.l hy0, by simp, by simp⟩) (fun i d v σ' H3 H4 hd k3 hP k4 rv => ?_) fun σ' H3 k3 hP => ?_)
  · obtain ⟨o, xs, ys, rfl, pn, hx, hy, pm, hn⟩ := hP
    obtain ⟨_, hi⟩ := upto_at hd
    rw [dI_len] at hi
    have pl := pm.length_eq
    rw [List.length_append] at pl
    refine b_one (s_append (de_var 3) (k4.l hy) (by rw [List.length_map]; omega) fun H5 k5 => w_pop (xs := xs.map V.int) (de_var 2) ((k4.trans k5).l hx) (fun H6 k6 => w_draw 0 cD hr (m := xs.length) (pn.up ((k4.trans k5).trans k6)) (by omega) (DD.as (by rw [dI_len]) (dd_lenL (de_list 2 ⟨_, ((k4.trans k5).trans k6).l hx, RpA.of_ints xs⟩) B.len)) (by omega) (by omega) fun j H7 hj k7 pn7 => ?_) (by rw [List.length_map]; omega))
    have k47 : Kp [p] H4 H7 := (k5.trans k6).to.trans k7
    have hx7 := (k47.l (k4.l hx) (by simpa using rp))
    have hy7 := (k47.l (k4.l hy) (by simpa using gp))
    refine ⟨j, rfl, by rw [List.length_map]; exact hj, hx7, fun v hv => ⟨?_, ?_⟩⟩
    · rw [upd_ne gr]
      exact hy7
    · have ev : v = .int xs[j] := by
        rw [List.getElem?_map, List.getElem?_eq_getElem hj] at hv
        exact (Option.some.inj hv).symm
      subst ev
      have kA : Kp [p, r, g] H4 (upd H7 r (.lst ((xs.map V.int).eraseIdx j))) := (k47.mono fun b hb => by rw [List.mem_singleton.mp hb]; simp).trans (Kp.wr hx7 trivial (by simp))
      have hgA : (upd H7 r (.lst ((xs.map V.int).eraseIdx j))) g = some (.lst (ys.map V.int)) := by
        rw [upd_ne gr]
        exact hy7
      refine ⟨kA.trans (Kp.wr hgA trivial (by simp)), _, xs.eraseIdx j, ys ++ [xs[j]], rfl, ?_, ?_, ?_, ?_, ?_⟩
      · obtain ⟨x', y', n', h', r'⟩ := pn7
        refine ⟨x', y', n', ?_, by have := r'.2.2.2; exact ⟨r'.1, r'.2.1, r'.2.2.1, by omega⟩⟩
        rw [upd_ne (Ne.symm gp), upd_ne (Ne.symm rp)]
        exact h'
      · rw [upd_ne (Ne.symm gr), map_erase]
        exact upd_same
      · rw [List.map_append]
        exact upd_same
      · rw [List.append_assoc]
        exact ((erase_perm hj).append_left ys).trans pm
      · rw [List.length_eraseIdx_of_lt hj]
        omega
  · obtain ⟨o, xs, ys, rfl, pn, hx, hy, pm, hn⟩ := hP
    rw [dI_upto_len, dI_len] at pn hn
    have x0 : xs = [] := List.eq_nil_of_length_eq_zero (by omega)
    subst x0
    rw [List.append_nil] at pm
    have kH : Kp [p] H H3 := ((Kp.refl H).close ((Kp.refl H).close (((k12.to.trans k3) : Kp [p, r, g] H H3).mono (M' := g :: r :: [p]) fun b hb => by simp at hb ⊢; rcases hb with h | h | h <;> simp [h]) g0) hr0)
    exact b_one (s_ret ((de_list 3 ⟨_, hy, RpA.of_ints ys⟩).go fun v H4 k4 ⟨e, z⟩ => by
      subst e
      exact q g ys H4 (kH.trans k4.to) ((pn.up k4).le (by omega)) g0 z pm))
end
end G28
namespace G28
open PySem PySem.Spec PyProof.Rows L2
variable [Tb]
section
variable {X : Cx} {a b c e : Expr} {es : List Expr} {σ : L2.St} {H : Hp} {pos p px : Pos} {ds : List Da} {d : Da} {j : Int} {Q : VK}
/-! ### rules for what draws meanwhile -/
theorem w_if (h : wT X c σ H fun k H1 => if k = true then wE X a σ H1 Q else wE X b σ H1 Q) : wE X (.IfExp c a b pos) σ H Q := wE_of (pe_ifExp wT_pt wE_pe wE_pe) h
theorem wt_eqI {R : Bool → Hp → Prop} (ha : wE X a σ H fun v H1 => ∃ i : Int, v = .int i ∧ DD X b σ H1 (.int j) ∧ ∀ H2, Kp [] H1 H2 → R (decide (i = j)) H2) : wT X (.Compare a [.Eq] [b] pos) σ H R :=
  wT_of (pt_cmpR op_eq wE_pe wE_pe (nomark _)) <| wE_mono ha fun x H2 ⟨i, e, hb, q⟩ => hb.go fun y H3 k3 r2 => by
    subst e
    rw [r2.i]
    exact ⟨rfl, _, rfl, by rw [int_eq]; exact q H3 k3⟩
theorem w_tupL (h : wE X a σ H fun v H1 => ∃ l ds, v = .ref l ∧ RL X.K H1 l ds ∧ ∀ u H2, Kp [] H1 H2 → Rp X.K H2 u (.tuple ds) → Q u H2) (hm : X.mg "tuple" = none) (hg : Gl X "tuple" := by rfl) (he : starEach [a] X.env = (false, eval a X.env) :: starEach [] X.env := by rfl) : wE X (.Call (.Name "tuple" p) [a] [] pos) σ H Q :=
  wE_of (pe_tupleOf hg hm wE_pe he) <| wE_mono h fun x H2 ⟨l, ds, e, ⟨xs, hx, rs⟩, q⟩ => .inl ⟨l, xs, e, .of hx, fun r hr => q _ _ (Kp.new hr) (.tup (.inl (.inl upd_same)) ((Kp.new (M := []) hr).ra rs))⟩
theorem w_tup {k : Nat} (h : wA X es σ H fun vs H1 => ∃ ds, RpA X.K H1 vs ds ∧ ds.length ≤ 1000 ∧ ∀ u H2, Kp [] H1 H2 → Rp X.K H2 u (.tuple ds) → Q u H2) : wE X (.Tuple es k pos) σ H Q :=
  wE_of (pe_tup wA_pa) <| wA_mono h fun vs H2 ⟨ds, rs, hl, q⟩ => ⟨by rw [rs.len]; exact small (by omega), fun r hr => q _ _ (Kp.new hr) (.tup (.inl (.inl upd_same)) ((Kp.new (M := []) hr).ra rs))⟩
theorem w_add {i : Int} (ha : DD X a σ H (.int i)) (hb : ∀ H1, Kp [] H H1 → wE X b σ H1 fun v H2 => ∃ n : Int, v = .int n ∧ Q (.int (i + n)) H2) : wE X (.BinOp a .Add b pos) σ H Q :=
  wE_of (pe_op op_add wE_pe wE_pe) <| ha.go fun x H1 k1 r1 => wE_mono (hb H1 k1) fun y H2 ⟨n, e, q⟩ => ⟨i, n, r1.i, e, q⟩
end
section
variable {P : Program} {w : World} {K : PySem.W.Frag} {mg : Str → Option Value} {base : Heap}
/-! ### _law_moves, _law_drawn, _law_rule, _law_two -/
def MvsOk (n L : Nat) (ms : List Mv) : Prop := ms.length = n ∧ ∀ m ∈ ms, MvOk n L m
def preNL (ds : List Da) : Prop := ∃ n L : Nat, 1 ≤ n ∧ n ≤ 4 ∧ 1 ≤ L ∧ L ≤ 16 ∧ ds = [.int (n : Int), .int (L : Int)]
def gMoves (ds : List Da) (d : Da) : Prop := ∃ (n L : Nat) (ms : List Mv), ds = [.int (n : Int), .int (L : Int)] ∧ MvsOk n L ms ∧ d = .tuple (ms.map dMv)
theorem ints2 {n L n' L' : Nat} (h : ([.int (n : Int), .int (L : Int)] : List Da) = [.int (n' : Int), .int (L' : Int)]) : n = n' ∧ L = L' := by
  have h1 := (List.cons.inj h).1
  have h2 := (List.cons.inj (List.cons.inj h).2).1
  exact ⟨by have := Da.int.inj h1; omega, by have := Da.int.inj h2; omega⟩
theorem pP_len {c : Nat} {pre : List Da → Prop} {G : List Da → Da → Prop} {m : Nat} (hl : ∀ ds, pre ds → ds.length = m) {vs : List V} {H : Hp} {Q : VK} {E : XK} (h : pP K c pre G vs H Q E) : vs.length = m + 1 := by
  obtain ⟨_, _, vs', ds, e, _, _, rs, hp, _⟩ := h
  rw [e, List.length_cons, rs.len, hl ds hp]
theorem perm_ord {n : Nat} {ms : List Int} (h : ms.Perm (upto n)) : ∃ o : List Nat, ms = o.map Int.ofNat ∧ OrdOk n o := by
  refine ⟨ms.map Int.toNat, ?_, ?_⟩
  · rw [List.map_map]
    have : ∀ x ∈ ms, (Int.ofNat ∘ Int.toNat) x = id x := fun x hx => by
      obtain ⟨i, _, rfl⟩ := List.mem_map.mp (h.mem_iff.mp hx)
      rfl
    rw [List.map_congr_left this, List.map_id]
  · have h2 := h.map Int.toNat
    have e : (upto n).map Int.toNat = List.range n := by
      unfold upto
      rw [List.map_map]
      have : ∀ x ∈ List.range n, (Int.toNat ∘ Int.ofNat) x = id x := fun x _ => rfl
      rw [List.map_congr_left this, List.map_id]
    rw [e] at h2
    exact h2
theorem pen_ne {H : Hp} {p q : Addr} {b : Nat} (h : Pen H p b) (hq : H q = none) : q ≠ p := fun z => by
  obtain ⟨_, _, _, h, _⟩ := h
  rw [← z, hq] at h
  cases h
theorem c_moves (B : Bt mg) (F : DefAt K mg "_law_moves" sLwMoves ["_law_pen_here", "_law_places", "_law_labels"]) (cD : CDraw P w K mg base) (cX : Cal P w K mg base 2 "_law_mixed" ["_law_pen_here", "_law_things"] (spMixed K)) : Cal P w K mg base 3 "_law_moves" ["_law_pen_here", "_law_places", "_law_labels"] (pP K 60 preNL gMoves) := by
  refine .mkW F scLwMoves (fun vs H Q E h => pP_len (m := 2) (fun ds ⟨_, _, _, _, _, _, e⟩ => by rw [e]; rfl) h) fun f cdv A outer s H vs Q E hr hsp => ?_
  obtain ⟨p, b, vs', ds, rfl, hp, hb, rs, ⟨n, L, n1, n4, L1, L16, rfl⟩, q⟩ := hsp
  obtain ⟨v1, v2, rfl, r1, r2⟩ := rs.c2
  refine b_cons (s_set 3 ((dl_lst (da_nil) (by simp)).go fun u H1 k1 ⟨g, e, hg0, ys0, hy0, ss0⟩ => ?_) scLwMoves.nd)
  subst e
  cases ss0
  have gp := pen_ne hp hg0
  refine b_cons (s_for (M := [p, g]) (ds := dI (upto n)) (fun i σ' H' => ∃ (o4 o5 : Option V) (ms : List Mv), σ' = [some (.ref p), some v1, some v2, some (.ref g), o4, o5] ∧ Pen H' p (b + 15 * i) ∧ RL K H' g (ms.map dMv) ∧ ms.length = i ∧ ∀ m ∈ ms, MvOk n L m)
    (src_range (dd_var 1 (k1.r r1)) (by omega) B.range) (pg_name (i := 4) scLwMoves.nd rfl (.inl rfl)) (fun H2 k2 => ⟨none, none, [], rfl, hp.up (k1.trans k2), ⟨[], k2.l hy0, .nil⟩, rfl, by simp⟩) (fun i d x σ' H3 H4 hd k3 hP k4 rv => ?_) fun σ' H3 k3 hP => ?_)
  · obtain ⟨o4, o5, ms, rfl, pn, rg, ml, mo⟩ := hP
    obtain ⟨rfl, hi⟩ := upto_at hd
    have k14 : Kp [p, g] H H4 := (k1.to.trans k3).trans k4.to
    have pn4 := pn.up k4
    refine b_cons (s_set 5 (wE_mono (Q := fun u H5 => ∃ o, OrdOk n o ∧ Kp [p] H4 H5 ∧ Pen H5 p (b + 15 * i + 14) ∧ Rp K H5 u (dOrd o)) (w_if (wt_eqI (w_draw 0 cD (hr.mono (by decide)) pn4 (by omega) dd_int (m := 3) (by decide) (by decide) fun j H5 hj k5 pn5 => ⟨_, rfl, dd_int, fun H6 k6 => ?_⟩))) fun u H5 ⟨o, oo, k5, pn5, ru⟩ => ?_) scLwMoves.nd)
    · have k46 : Kp [p] H4 H6 := k5.trans k6.to
      have k16 : Kp [p, g] H H6 := k14.trans (k46.mono fun b hb => by rw [List.mem_singleton.mp hb]; simp)
      by_cases z : ((j : Nat) : Int) = 0
      · rw [if_pos (decide_eq_true z)]
        exact (dd_tupRg (n := n) (dd_var 1 (k16.r r1)) (by omega) B.tuple B.range).go fun u H7 k7 ru => ⟨List.range n, List.Perm.refl _, k46.trans k7.to, ((pn5.up k6).up k7).le (by omega), ru⟩
      · rw [if_neg (by rw [decide_eq_false z]; exact Bool.false_ne_true)]
        refine w_tupL (w_call cX hr (w_args ((de_var 0).go fun a1 H7 k7 e1 => w_args ((dl_listRg (n := n) (dd_var 1 ((k16.trans k7.to).r r1)) (by omega) B.list B.range).go fun a2 H8 k8 ⟨l, e2, hl0, xs, hx, rs⟩ => w_args0 ?_)))) B.tuple
        have pn8 := (pn5.up k6).up (k7.trans k8)
        have ex := rs.ints
        subst ex
        refine ⟨p, l, _, upto n, by rw [e1, e2], pn8, pen_ne (pn5.up k6) (k7.fresh hl0), hx, by rw [upto_len]; omega, by omega, fun l2 ms H9 k9 pn9 hl2 rl pm => ⟨l2, dI ms, rfl, rl, fun u H10 k10 ru => ?_⟩⟩
        obtain ⟨o, rfl, oo⟩ := perm_ord pm
        exact ⟨o, oo, ((k46.trans (k7.trans k8).to).trans k9).trans k10.to, (pn9.up k10).le (by omega), ru⟩
    obtain ⟨xs, hx, rs⟩ := (k4.to.trans k5).rl rg (by simpa using gp)
    have xl := rs.len
    rw [List.length_map] at xl
    refine b_one (s_append (de_var 3) hx (by omega) fun H6 k6 => w_tup (w_args ((dd_var 5 (k6.r ru)).go fun y1 H7 k7 q1 => w_args (w_draw 0 cD (hr.mono (by decide)) ((pn5.up k6).up k7) (by omega) (dd_var 2 (((k5.trans (k6.trans k7).to)).r (k14.r r2))) L1 (by omega) fun j H8 hj k8 pn8 => w_args0 ⟨[dOrd o, .int (j : Int)], .cons (k8.r q1) (.cons (.int _) .nil), by simp, fun u H9 k9 ru => ?_⟩))))
    have k69 : Kp [p] H6 H9 := (k7.to.trans k8).trans k9.to
    have hx9 := k69.l (k6.l hx) (by simpa using gp)
    have kw : Kp [p, g] H9 (upd H9 g (.lst (xs ++ [u]))) := Kp.wr hx9 trivial (by simp)
    have k49 : Kp [p, g] H4 H9 := (k5.trans (k6.to.trans k69)).mono fun b hb => by rw [List.mem_singleton.mp hb]; simp
    refine ⟨hx9, k49.trans kw, _, _, ms ++ [(o, j)], rfl, ?_, ⟨_, upd_same, ?_⟩, by rw [List.length_append]; simp [ml], fun m hm => ?_⟩
    · obtain ⟨x', y', n', h', r'⟩ := pn8.up k9
      exact ⟨x', y', n', by rw [upd_ne (Ne.symm gp)]; exact h', r'.1, r'.2.1, r'.2.2.1, by have := r'.2.2.2; omega⟩
    · rw [List.map_append]
      exact (kw.ra (k69.ra (k6.ra rs))).snoc (kw.r ru)
    · rcases List.mem_append.mp hm with h | h
      · exact mo m h
      · rw [List.mem_singleton.mp h]
        exact ⟨oo, hj⟩
  · obtain ⟨o4, o5, ms, rfl, pn, rg, ml, mo⟩ := hP
    rw [dI_upto_len] at pn ml
    have kH : Kp [p] H H3 := (Kp.refl H).close ((k1.to.trans k3).mono fun b hb => by simp at hb ⊢; rcases hb with h | h <;> simp [h]) hg0
    exact b_one (s_ret ((dd_tupS (de_list 3 rg) B.tuple).go fun z H4 k4 r => q _ z H4 ⟨n, L, ms, rfl, ⟨ml, mo⟩, rfl⟩ (kH.trans k4.to) ((pn.up k4).le (by omega)) r))
theorem map_snoc {α β : Type} (f : α → β) (l : List α) (a : α) : l.map f ++ [f a] = (l ++ [a]).map f := by rw [List.map_append] <;> rfl
theorem getNL {n L n' L' : Nat} (h : ([.int (n : Int), .int (L : Int)] : List Da) = [.int (n' : Int), .int (L' : Int)]) : n' = n ∧ L' = L := ⟨(ints2 h).1.symm, (ints2 h).2.symm⟩
def gDrawn (ds : List Da) (d : Da) : Prop := ∃ r : Rule, RuleOk r ∧ d = dRule r
theorem c_drawn (B : Bt mg) (F : DefAt K mg "_law_drawn" sLwDrawn ["_law_pen_here", "_law_places", "_law_labels"]) (cD : CDraw P w K mg base) (cM : Cal P w K mg base 3 "_law_moves" ["_law_pen_here", "_law_places", "_law_labels"] (pP K 60 preNL gMoves)) : Cal P w K mg base 4 "_law_drawn" ["_law_pen_here", "_law_places", "_law_labels"] (pP K 2000 preNL gDrawn) := by
  refine .mkW F scLwDrawn (fun vs H Q E h => pP_len (m := 2) (fun ds ⟨_, _, _, _, _, _, e⟩ => by rw [e]; rfl) h) fun f cdv A outer s H vs Q E hr hsp => ?_
  obtain ⟨p, b, vs', ds, rfl, hp, hb, rs, ⟨n, L, n1, n4, L1, L16, rfl⟩, q⟩ := hsp
  obtain ⟨v1, v2, rfl, r1, r2⟩ := rs.c2
  refine b_cons (s_set 3 ((dl_lst (da_nil) (by simp)).go fun u H1 k1 ⟨g, e, hg0, ys0, hy0, ss0⟩ => ?_) scLwDrawn.nd)
  subst e
  cases ss0
  have gp := pen_ne hp hg0
  refine b_cons (s_for (M := [p, g]) (ds := dI (upto L)) (fun i σ' H' => ∃ (o4 o5 o6 : Option V) (ls : List LRow), σ' = [some (.ref p), some v1, some v2, some (.ref g), o4, o5, o6] ∧ Pen H' p (b + 121 * i) ∧ RL K H' g (ls.map dRow) ∧ ls.length = i ∧ ∀ l ∈ ls, RowOk n L l)
    (src_range (dd_var 2 (k1.r r2)) (by omega) B.range) (pg_name (i := 4) scLwDrawn.nd rfl (.inl rfl)) (fun H2 k2 => ⟨none, none, none, [], rfl, hp.up (k1.trans k2), ⟨[], k2.l hy0, .nil⟩, rfl, by simp⟩) (fun i d x σ' H3 H4 hd k3 hP k4 rv => ?_) fun σ' H3 k3 hP => ?_)
  · obtain ⟨o4, o5, o6, ls, rfl, pn, rg, ll, lo⟩ := hP
    obtain ⟨rfl, hi⟩ := upto_at hd
    have k14 : Kp [p, g] H H4 := (k1.to.trans k3).trans k4.to
    have pn4 := pn.up k4
    have preH : preNL [.int (n : Int), .int (L : Int)] := ⟨n, L, n1, n4, L1, L16, rfl⟩
    refine b_cons (s_par 5 6 (w_pen 0 cM hr pn4 (by omega) (da_cons (dd_var 1 (k14.r r1)) (da_cons (dd_var 2 (k14.r r2)) da_nil)) preH fun d1 u1 H5 g1 k5 pn5 ru1 =>
      w_draw 0 cD (hr.mono (by decide)) pn5 (by omega) (dd_var 1 ((k5.r (k14.r r1)))) n1 (by omega) fun out H6 ho k6 pn6 => ?_) scLwDrawn.nd)
    obtain ⟨n', L', hs, e1, ok1, rfl⟩ := g1
    obtain ⟨rfl, rfl⟩ := getNL e1
    have k46 : Kp [p] H4 H6 := k5.trans k6
    obtain ⟨xs, hx, rs6⟩ := (k4.to.trans k46).rl rg (by simpa using gp)
    have xl := rs6.len
    rw [List.length_map] at xl
    refine b_one (s_append (de_var 3) hx (by omega) fun H7 k7 => w_tup (w_args ((dd_var 5 ((k6.trans k7.to).r ru1)).go fun y1 H8 k8 q1 => w_args ((dd_var 6 (.int _)).go fun y2 H9 k9 q2 => w_args (w_pen 0 cM hr ((pn6.up k7).up (k8.trans k9)) (by omega) (da_cons (dd_var 1 (((k46.trans k7.to).trans (k8.trans k9).to).r (k14.r r1))) (da_cons (dd_var 2 (((k46.trans k7.to).trans (k8.trans k9).to).r (k14.r r2))) da_nil)) preH fun d3 u3 H10 g3 k10 pn10 ru3 => w_args0 ?_)))))
    obtain ⟨n', L', cs, e3, ok3, rfl⟩ := g3
    obtain ⟨rfl, rfl⟩ := getNL e3
    refine ⟨[_, _, _], .cons ((k9.to.trans k10).r q1) (.cons (k10.r q2) (.cons ru3 .nil)), by simp, fun u H11 k11 ru => ?_⟩
    have k711 : Kp [p] H7 H11 := ((k8.trans k9).to.trans k10).trans k11.to
    have hx9 := k711.l (k7.l hx) (by simpa using gp)
    have kw : Kp [p, g] H11 (upd H11 g (.lst (xs ++ [u]))) := Kp.wr hx9 trivial (by simp)
    have k411 : Kp [p, g] H4 H11 := (k46.trans (k7.to.trans k711)).mono fun b hb => by rw [List.mem_singleton.mp hb]; simp
    refine ⟨hx9, k411.trans kw, _, _, _, ls ++ [⟨hs, out, cs⟩], rfl, ?_, ⟨_, upd_same, ?_⟩, by rw [List.length_append]; simp [ll], fun l hl => ?_⟩
    · obtain ⟨x', y', n', h', r'⟩ := pn10.up k11
      exact ⟨x', y', n', by rw [upd_ne (Ne.symm gp)]; exact h', r'.1, r'.2.1, r'.2.2.1, by have := r'.2.2.2; omega⟩
    · rw [← map_snoc]
      exact (kw.ra (k711.ra (k7.ra rs6))).snoc (kw.r ru)
    · rcases List.mem_append.mp hl with h | h
      · exact lo l h
      · rw [List.mem_singleton.mp h]
        exact ⟨ok1.1, ok1.2, ho, ok3.1, ok3.2⟩
  · obtain ⟨o4, o5, o6, ls, rfl, pn, rg, ll, lo⟩ := hP
    rw [dI_upto_len] at pn ll
    have kH : Kp [p] H H3 := (Kp.refl H).close ((k1.to.trans k3).mono fun b hb => by simp at hb ⊢; rcases hb with h | h <;> simp [h]) hg0
    exact b_one (s_ret ((dd_tp (da_cons (dd_var 1 ((k1.to.trans k3).r r1)) (da_cons (dd_tupS (de_list 3 rg) B.tuple) da_nil))).go fun z H4 k4 r => q _ z H4 ⟨⟨n, ls⟩, ⟨n1, n4, by rw [ll]; exact L1, by rw [ll]; exact L16, fun l hl => by rw [ll]; exact lo l hl⟩, rfl⟩ (kH.trans k4.to) ((pn.up k4).le (by omega)) r))
def preM (ds : List Da) : Prop := ∃ most L : Nat, 1 ≤ most ∧ most ≤ 4 ∧ 1 ≤ L ∧ L ≤ 2 ∧ ds = [.int (most : Int), .int (L : Int)]
theorem w_penI {X : Cx} {a b : Expr} {σ : L2.St} {H : Hp} {pos px px' : Pos} {x y : Str} {k cc : Nat} {ps : List Str} {pre : List Da → Prop} {G : List Da → Da → Prop} {Q : VK} (n : Nat) (C : Cal X.prog X.w X.K X.mg X.base k x ps (pP X.K cc pre G)) (hr : Room k X.A) {p : Addr}
    (ha : ∀ H1, Kp [] H H1 → wA X [a, b] σ H1 fun vs H2 => ∃ b' ds, RpA X.K H2 vs ds ∧ Pen H2 p b' ∧ b' + cc ≤ 1000000 ∧ pre ds ∧ ∀ d v H', G ds d → Kp [p] H2 H' → Pen H' p (b' + cc) → Rp X.K H' v d → Q v H')
    (hs : σ[n]? = some (some (.ref p)) := by rfl) (hN : X.N[n]? = some y := by rfl) (hv : Vis X.env.scope y := by first | exact Or.inl rfl | exact Or.inr (Or.inl rfl) | exact Or.inr (Or.inr rfl)) (hd : (y == ("__debug__" : Str)) = false := by decide) (hcd : (y == ("__classdict__" : Str)) = false := by decide)
    (hg : Gl X x := by rfl) (hdb : (x == ("__debug__" : Str)) = false := by decide) (he : starEach (.Name y px' :: [a, b]) X.env = (false, eval (.Name y px') X.env) :: starEach [a, b] X.env := by rfl) (hpl : (backTo pos (starEach [a, b] X.env)).any (·.1) = false := by rfl) : wE X (.Call (.Name x px) (.Name y px' :: [a, b]) [] pos) σ H Q :=
  w_call C hr (w_args ((de_var n hs hN hv hd hcd).go fun v H1 k1 e => wA_mono (ha H1 k1) fun vs H2 ⟨b', ds, rs, hp, hb, hpre, q⟩ => ⟨p, b', vs, ds, by rw [e], hp, hb, rs, hpre, q⟩) he) hg hdb he hpl
theorem c_rule (B : Bt mg) (F : DefAt K mg "_law_rule" sLwRule ["_law_pen_here", "_law_most", "_law_labels"]) (cD : CDraw P w K mg base) (c1 : Cal P w K mg base 2 "_law_recent" ["_law_places"] (pS K (rOneOf recentR))) (c2 : Cal P w K mg base 2 "_law_queue" ["_law_places"] (pS K (rOneOf queueR))) (c3 : Cal P w K mg base 2 "_law_newest" ["_law_places"] (pS K (rOneOf newestR)))
    (cN : Cal P w K mg base 4 "_law_drawn" ["_law_pen_here", "_law_places", "_law_labels"] (pP K 2000 preNL gDrawn)) : Cal P w K mg base 5 "_law_rule" ["_law_pen_here", "_law_most", "_law_labels"] (pP K 2003 preM gDrawn) := by
  refine .mkW F scLwRule (fun vs H Q E h => pP_len (m := 2) (fun ds ⟨_, _, _, _, _, _, e⟩ => by rw [e]; rfl) h) fun f cdv A outer s H vs Q E hr hsp => ?_
  obtain ⟨p, b, vs', ds, rfl, hp, hb, rs, ⟨mo, L, m1, m4, L1, L2, rfl⟩, q⟩ := hsp
  obtain ⟨v1, v2, rfl, r1, r2⟩ := rs.c2
  refine b_cons (s_par 3 4 (w_add dd_int fun H1 k1 => w_draw 0 cD (hr.mono (by decide)) (hp.up k1) (by omega) (dd_var 1 (k1.r r1)) m1 (by omega) fun j H2 hj k2 pn2 => ⟨_, rfl, w_draw 0 cD (hr.mono (by decide)) pn2 (by omega) dd_int (m := 7) (by decide) (by decide) fun way H3 hw k3 pn3 => ?_⟩) scLwRule.nd)
  have k13 : Kp [p] H H3 := (k1.to.trans k2).trans k3
  have eN : (1 : Int) + (j : Int) = ((1 + j : Nat) : Int) := by omega
  rw [eN]
  have n1 : 1 ≤ 1 + j := by omega
  have n4 : 1 + j ≤ 4 := by omega
  generalize 1 + j = n at n1 n4
  refine b_cons (s_if (dt_lt (dd_var 4 (.int _)) dd_int) (fun hq H4 k4 => ?_) fun hq H4 k4 => b_nil ?_)
  · have hq := of_decide_eq_true hq
    have pick : ∃ d r, RuleOk r ∧ d = dRule r ∧ ([dRule (recentR n), dRule (queueR n), dRule (newestR n)] : List Da)[way]? = some d := by
      have : way = 0 ∨ way = 1 ∨ way = 2 := by omega
      rcases this with rfl | rfl | rfl
      · exact ⟨_, _, recentR_ok n1 n4, rfl, rfl⟩
      · exact ⟨_, _, queueR_ok n1 n4, rfl, rfl⟩
      · exact ⟨_, _, newestR_ok n1 n4, rfl, rfl⟩
    obtain ⟨d, r, rok, rfl, hd⟩ := pick
    refine b_one (s_ret (wE_of (pe_ix ix_list wE_pe wE_pe (by intro _ _; rfl)) ((dl_lst (da_cons (dd_call c1 (hr.mono (by decide)) (da_cons (dd_var 3 (.int _)) da_nil) ⟨n, n1, n4, rfl, rfl⟩) (da_cons (dd_call c2 (hr.mono (by decide)) (da_cons (dd_var 3 (.int _)) da_nil) ⟨n, n1, n4, rfl, rfl⟩) (da_cons (dd_call c3 (hr.mono (by decide)) (da_cons (dd_var 3 (.int _)) da_nil) ⟨n, n1, n4, rfl, rfl⟩) da_nil))) (by simp)).go fun x1 H5 k5 ⟨l, e, _, xs, hx, rs⟩ => (dd_var 4 (.int (way : Int))).go fun x2 H6 k6 r6 => ?_)))
    obtain ⟨v, hv, rv⟩ := rs.at hd
    exact ⟨l, xs, (way : Int), v, e, r6.i, .of (k6.l hx), atI_nat hv, q _ v H6 ⟨r, rok, rfl⟩ (k13.trans ((k4.trans k5).trans k6).to) ((pn3.up ((k4.trans k5).trans k6)).le (by omega)) (k6.r rv)⟩
  · refine b_one (s_ret (w_penI 0 cN hr fun H5 k5 => w_args ((dd_var 3 (.int (n : Int))).go fun y1 H6 k6 q1 => w_args (w_add dd_int fun H7 k7 => w_draw 0 cD (hr.mono (by decide)) (pn3.up ((k4.trans k5).trans (k6.trans k7))) (by omega) (dd_var 2 ((k13.trans ((k4.trans k5).trans (k6.trans k7)).to).r r2)) L1 (by omega) fun j2 H8 hj2 k8 pn8 => ⟨_, rfl, w_args0 ?_⟩))))
    refine ⟨_, [.int (n : Int), .int ((1 + j2 : Nat) : Int)], .cons ((k7.to.trans k8).r q1) (.cons (by rw [show (1 : Int) + (j2 : Int) = ((1 + j2 : Nat) : Int) by omega]; exact .int _) .nil), pn8, by omega, ⟨n, 1 + j2, n1, n4, by omega, by omega, rfl⟩, fun d v H9 g9 k9 pn9 r9 => ?_⟩
    exact q d v H9 g9 (((k13.trans ((k4.trans k5).trans (k6.trans k7)).to).trans k8).trans k9) (pn9.le (by omega)) r9
def preMost (ds : List Da) : Prop := ∃ most : Nat, 1 ≤ most ∧ most ≤ 4 ∧ ds = [.int (most : Int)]
def gTwo (ds : List Da) (d : Da) : Prop := ∃ r q : Rule, RuleOk r ∧ RuleOk q ∧ d = .tuple [dRule r, dRule q]
theorem c_two (F : DefAt K mg "_law_two" sLwTwo ["_law_pen_here", "_law_most"]) (cR : Cal P w K mg base 5 "_law_rule" ["_law_pen_here", "_law_most", "_law_labels"] (pP K 2003 preM gDrawn)) : Cal P w K mg base 6 "_law_two" ["_law_pen_here", "_law_most"] (pP K 4006 preMost gTwo) := by
  refine .mkW F scLwTwo (fun vs H Q E h => pP_len (m := 1) (fun ds ⟨_, _, _, e⟩ => by rw [e]; rfl) h) fun f cdv A outer s H vs Q E hr hsp => ?_
  obtain ⟨p, b, vs', ds, rfl, hp, hb, rs, ⟨mo, m1, m4, rfl⟩, q⟩ := hsp
  obtain ⟨v1, rfl, r1⟩ := rs.c1
  have pr : preM [.int (mo : Int), .int 2] := ⟨mo, 2, m1, m4, by decide, by decide, rfl⟩
  refine b_one (s_ret (w_tup (w_args (w_pen 0 cR hr hp (by omega) (da_cons (dd_var 1 r1) (da_cons dd_int da_nil)) pr fun d1 u1 H1 ⟨r, ro, e1⟩ k1 pn1 ru1 => w_args (w_pen 0 cR hr pn1 (by omega) (da_cons (dd_var 1 (k1.r r1)) (da_cons dd_int da_nil)) pr fun d2 u2 H2 ⟨q2, qo, e2⟩ k2 pn2 ru2 => w_args0 ?_)))))
  subst e1 e2
  exact ⟨[_, _], .cons (k2.r ru1) (.cons ru2 .nil), by simp, fun u H3 k3 ru => q _ u H3 ⟨r, q2, ro, qo, rfl⟩ ((k1.trans k2).trans k3.to) ((pn2.up k3).le (by omega)) ru⟩
end
end G28
namespace G28
open PySem PySem.Spec PyProof.Rows L2
variable [Tb]
section
variable {P : Program} {w : World} {K : PySem.W.Frag} {mg : Str → Option Value} {base : Heap}
theorem c_lfirst (F : DefAt K mg "_law_first" sLwFirst ["_law_rule_here"]) : Cal P w K mg base 1 "_law_first" ["_law_rule_here"] (pS K rFirstState) := by
  refine .mkP F scLwFirst (fun ds d ⟨_, _, e, _⟩ => by rw [e]; rfl) fun f cdv A outer s H vs E ds d hr rs hR => ?_
  obtain ⟨R, hR, rfl, rfl⟩ := hR
  obtain ⟨v1, rfl, r1⟩ := rs.c1
  exact b_one (s_retD (Kp.refl H) (dd_tp (da_cons (dd_rep (n := R.places) (dd_neg dd_int) (dd_ix (n := 0) (dd_var 0 r1) dd_int rfl) hR.p1 (by have := hR.p4; omega)) (da_cons dd_int da_nil))))
theorem c_lmet (F : DefAt K mg "_law_met" sLwMet ["_law_one", "_law_other"]) (cF : Cal P w K mg base 1 "_law_first" ["_law_rule_here"] (pS K rFirstState)) : Cal P w K mg base 2 "_law_met" ["_law_one", "_law_other"] (pS K rFirstPair) := by
  refine .mkP F scLwMet (fun ds d ⟨_, _, _, _, e, _⟩ => by rw [e]; rfl) fun f cdv A outer s H vs E ds d hr rs hR => ?_
  obtain ⟨R, Q, hR, hQ, rfl, rfl⟩ := hR
  obtain ⟨v1, v2, rfl, r1, r2⟩ := rs.c2
  exact b_one (s_retD (Kp.refl H) (dd_tp (da_cons (dd_call cF hr (da_cons (dd_var 0 r1) da_nil) ⟨R, hR, rfl, rfl⟩) (da_cons (dd_call cF hr (da_cons (dd_var 1 r2) da_nil) ⟨Q, hQ, rfl, rfl⟩) da_nil))))
theorem c_lmany (B : Bt mg) (F : DefAt K mg "_law_many" sLwMany ["_law_pair"]) : Cal P w K mg base 1 "_law_many" ["_law_pair"] (pS K rHowMany) := by
  refine .mkP F scLwMany (fun ds d ⟨_, _, _, _, _, e, _⟩ => by rw [e]; rfl) fun f cdv A outer s H vs E ds d hr rs hR => ?_
  obtain ⟨r, q, A0, hq, hA, rfl, rfl⟩ := hR
  obtain ⟨v1, rfl, r1⟩ := rs.c1
  obtain ⟨m, hm, hle, e, hl⟩ := greatest hq hA
  have e1 : dI A0.1.1 ++ dI A0.2.1 = dI (A0.1.1 ++ A0.2.1) := List.map_append.symm
  refine b_one (s_retD (Kp.refl H) (DD.as (show Da.int (m + 1) = _ by rw [e]) (dd_add (dd_maxT (ns := A0.1.1 ++ A0.2.1) (m := m) (DD.as (by rw [e1]) (dd_cat (dd_rt (dd_ix (n := 0) (dd_ix (n := 0) (dd_var 0 r1) dd_int rfl) dd_int rfl)) (dd_rt (dd_ix (n := 0) (dd_ix (n := 1) (dd_var 0 r1) dd_int rfl) dd_int rfl)) ?_)) hm hle (by omega) B.max hr.units) dd_int)))
  rw [dI_len, dI_len, ← List.length_append]
  omega
end
end G28
namespace G28
open PySem PySem.Spec PyProof.Rows L2
variable [Tb]
section
variable {P : Program} {w : World} {K : PySem.W.Frag} {mg : Str → Option Value} {base : Heap}
theorem c_lasked (B : Bt mg) (F : DefAt K mg "_law_asked" sLwAsked ["_law_rule_here", "_law_state", "_law_thing"]) : Cal P w K mg base 1 "_law_asked" ["_law_rule_here", "_law_state", "_law_thing"] (pS K rStep) := by
  refine .mkP F scLwAsked (fun ds d ⟨_, _, _, _, _, e, _⟩ => by rw [e]; rfl) fun f cdv A outer s H vs E ds d hr rs hR => ?_
  obtain ⟨R, S, t, hR, hS, rfl, rfl⟩ := hR
  obtain ⟨v1, v2, v3, rfl, r1, r2, r3⟩ := rs.c3
  have Q := lrow_ok hR hS.lab
  have L4 := hR.p4
  refine b_cons (s_unpack ((dd_tp (da_cons (dd_var 1 r2) (da_cons (dd_var 0 r1) da_nil))).go fun v H1 k1 r => ?_) (pg_tup rfl (pgs_cons (pg_tup rfl (pgs_cons (pg_name (i := 3) scLwAsked.nd rfl (.inr rfl)) (pgs_cons (pg_name (i := 4) scLwAsked.nd rfl (.inl rfl)) pgs_nil))) (pgs_cons (pg_tup rfl (pgs_cons (pg_name (i := 5) scLwAsked.nd rfl (.inl rfl)) (pgs_cons (pg_name (i := 6) scLwAsked.nd rfl (.inl rfl)) pgs_nil))) pgs_nil))))
  obtain ⟨a0, xs0, rfl, hx0, rs0⟩ := r.t
  obtain ⟨b1, b2, rfl, s1, s2⟩ := rs0.c2
  obtain ⟨a1, xs1, rfl, hx1, rs1⟩ := s1.t
  obtain ⟨u1, u2, rfl, q1, q2⟩ := rs1.c2
  obtain ⟨a2, xs2, rfl, hx2, rs2⟩ := s2.t
  obtain ⟨u3, u4, rfl, q3, q4⟩ := rs2.c2
  refine ⟨a0, _, rfl, hx0, rfl, _, _, rfl, ⟨a1, _, rfl, hx1, rfl, _, _, rfl, _, _, rfl, rfl, _, _, rfl, ⟨a2, _, rfl, hx2, rfl, _, _, rfl, _, _, rfl, rfl, rfl, ?_⟩⟩⟩
  show wB _ _ _ [some v1, some v2, some v3, some u1, some u2, some u3, some u4, none, none, none, none, none, none, none, none, none] H1
  refine b_cons (s_three (n := 7) (m := 8) (l := 9) (dd_ix (n := S.2) (dd_var 6 q4) (dd_var 4 q2) (rows_at hS.lab)) (fun w1 w2 w3 H2 k2 g1 g2 g3 => ?_) (pg_tup rfl (pgs_cons (pg_name (i := 7) scLwAsked.nd rfl (.inl rfl)) (pgs_cons (pg_name (i := 8) scLwAsked.nd rfl (.inl rfl)) (pgs_cons (pg_name (i := 9) scLwAsked.nd rfl (.inl rfl)) pgs_nil)))))
  show wB _ _ _ [some v1, some v2, some v3, some u1, some u2, some u3, some u4, some w1, some w2, some w3, none, none, none, none, none, none] H2
  have p1 := k2.r q1
  have p3 := (k1.trans k2).r r3
  have kk := k1.trans k2
  have sl : S.1.length ≤ 4 := by rw [hS.len]; exact L4
  refine b_cons (s_if (dt_in (dd_var 2 p3) (dd_rt (dd_var 3 p1))) (fun hm H3 k3 => ?_) fun hm H3 k3 => b_nil ?_)
  · have hm := of_decide_eq_true hm
    have M := hitM_ok Q hS.len hm
    have hx := List.idxOf_lt_length_iff.mpr hm
    have e : G28.step R S t = (true, none, (arr S.1 (hitM (lrow R S.2) S.1 t).1, (hitM (lrow R S.2) S.1 t).2)) := if_pos hm
    rw [e]
    refine b_cons (s_two (n := 10) (m := 11) (dd_ix (n := S.1.idxOf t) (dd_var 7 (k3.r g1)) (dd_index (dd_var 3 (k3.r p1)) (dd_var 2 (k3.r p3)) hm) (mvs_at (by rw [Q.hl, ← hS.len]; exact hx))) (fun z1 z2 H4 k4 o1 o2 => ?_) (pg_tup rfl (pgs_cons (pg_name (i := 10) scLwAsked.nd rfl (.inl rfl)) (pgs_cons (pg_name (i := 11) scLwAsked.nd rfl (.inl rfl)) pgs_nil))))
    show wB _ _ _ [some v1, some v2, some v3, some u1, some u2, some u3, some u4, some w1, some w2, some w3, some z1, some z2, none, none, none, none] H4
    have p14 := (k3.trans k4).r p1
    refine b_one (s_retD ((kk.trans k3).trans k4) (dd_tp (da_cons dd_bl (da_cons dd_non (da_cons (dd_tp (da_cons (dd_rowN (ns := arr S.1 (hitM (lrow R S.2) S.1 t).1) ?_ B.tuple) (da_cons (dd_var 11 o2) da_nil))) da_nil)))))
    rw [← atF_map]
    refine dl_map (own := [("_law_at", 15)]) (n := 15) (atF S.1) (src_tup (dd_var 10 o1)) scLwAsked.nd (blkOk_by (own := [("_law_at", 15)]) (N := nLwAsked) (sc := defScope sLwAsked) (by decide +kernel))
      (fun _ _ _ _ _ => pg_name (i := 15) scLwAsked.nd rfl (.inl rfl)) (fun d v H5 hd k5 r s0 H0 C cl fp => ?_) (by rw [dI_len, List.length_map]; exact Nat.le_trans (Nat.le_of_eq (ord_len M.1)) (by omega))
    obtain ⟨i, hi, rfl⟩ := List.mem_map.mp hd
    obtain ⟨q, hq, rfl⟩ := List.mem_map.mp hi
    exact dd_ix (n := q) (dd_rt (dd_var 3 (k5.r p14))) (dd_var 15 r) (dI_at (by rw [hS.len]; exact ord_lt M.1 q hq))
  · have hm := of_decide_eq_false hm
    have M := comeM_ok Q hS.len
    have hp : place (lrow R S.2) S.1 < S.1.length := by rw [hS.len]; exact place_lt Q hS.len
    have e : G28.step R S t = (false, G28.gone (lrow R S.2) S.1, (arr (S.1.set (place (lrow R S.2) S.1) t) (comeM (lrow R S.2) S.1).1, (comeM (lrow R S.2) S.1).2)) := if_neg hm
    rw [e]
    have a1 := k3.r p1
    have a3 := k3.r p3
    refine b_cons (s_set 12 ((de_if (R := fun v H2 => Rp K H2 v (.int (place (lrow R S.2) S.1 : Nat))) (dt_in (dd_neg dd_int) (dd_rt (dd_var 3 a1))) (fun h => ?_) fun h => ?_).go fun x1 H4 k4 b1 => ?_) scLwAsked.nd)
    · have h := of_decide_eq_true h
      refine DD.as ?_ (dd_index (dd_var 3 a1) (dd_neg dd_int) h)
      unfold place
      rw [if_pos h]
    · have h := of_decide_eq_false h
      refine DD.as ?_ (dd_var 8 (k3.r g2))
      unfold place
      rw [if_neg h]
    show wB _ _ _ [some v1, some v2, some v3, some u1, some u2, some u3, some u4, some w1, some w2, some w3, none, none, some x1, none, none, none] H4
    have ix := dI_at (ns := S.1) hp
    refine b_cons (s_set 13 ((de_if (R := fun v H2 => Rp K H2 v (dOpt (G28.gone (lrow R S.2) S.1))) (dt_eq (dd_ix (n := place (lrow R S.2) S.1) (dd_rt (dd_var 3 (k4.r a1))) (dd_var 12 b1) ix) (dd_neg dd_int)) (fun h => ?_) fun h => ?_).go fun x2 H5 k5 b2 => ?_) scLwAsked.nd)
    · have h := of_decide_eq_true h
      refine DD.as ?_ dd_non
      unfold G28.gone
      rw [if_pos h]
      rfl
    · have h := of_decide_eq_false h
      refine DD.as ?_ (dd_ix (n := place (lrow R S.2) S.1) (dd_rt (dd_var 3 (k4.r a1))) (dd_var 12 b1) ix)
      unfold G28.gone
      rw [if_neg h]
      rfl
    show wB _ _ _ [some v1, some v2, some v3, some u1, some u2, some u3, some u4, some w1, some w2, some w3, none, none, some x1, some x2, none, none] H5
    have k45 := k4.trans k5
    refine b_cons (s_two (n := 10) (m := 11) (dd_ix (n := place (lrow R S.2) S.1) (dd_var 9 ((k3.trans k45).r g3)) (dd_var 12 (k5.r b1)) (mvs_at (by rw [Q.cl, ← hS.len]; exact hp))) (fun z1 z2 H6 k6 o1 o2 => ?_) (pg_tup rfl (pgs_cons (pg_name (i := 10) scLwAsked.nd rfl (.inl rfl)) (pgs_cons (pg_name (i := 11) scLwAsked.nd rfl (.inl rfl)) pgs_nil))))
    show wB _ _ _ [some v1, some v2, some v3, some u1, some u2, some u3, some u4, some w1, some w2, some w3, some z1, some z2, some x1, some x2, none, none] H6
    have k46 := k45.trans k6
    have c1 := k46.r a1
    have c3 := k46.r a3
    have c10 := (k5.trans k6).r b1
    refine b_cons (s_set 14 ((dd_cat (dd_cat (dd_to (n := place (lrow R S.2) S.1) (dd_rt (dd_var 3 c1)) (dd_var 12 c10)) (dd_tp (da_cons (dd_var 2 c3) da_nil)) ?_) (dd_from (n := place (lrow R S.2) S.1 + 1) (dd_rt (dd_var 3 c1)) (DD.as (by rfl) (dd_add (dd_var 12 c10) dd_int))) ?_).go fun x3 H7 k7 b3 => ?_) scLwAsked.nd)
    · rw [List.length_take, dI_len]
      show _ + 1 ≤ _
      omega
    · rw [List.length_append, List.length_take, List.length_drop, dI_len]
      show _ + 1 + _ ≤ _
      omega
    show wB _ _ _ [some v1, some v2, some v3, some u1, some u2, some u3, some u4, some w1, some w2, some w3, some z1, some z2, some x1, some x2, some x3, none] H7
    rw [fill_is hp] at b3
    have o1' := k7.r o1
    refine b_one (s_retD ((kk.trans k3).trans (k46.trans k7)) (dd_tp (da_cons dd_bl (da_cons (dd_var 13 ((k6.trans k7).r b2)) (da_cons (dd_tp (da_cons (dd_rowN (ns := arr (S.1.set (place (lrow R S.2) S.1) t) (comeM (lrow R S.2) S.1).1) ?_ B.tuple) (da_cons (dd_var 11 (k7.r o2)) da_nil))) da_nil)))))
    rw [← atF_map]
    refine dl_map (own := [("_law_at", 15)]) (n := 15) (atF (S.1.set (place (lrow R S.2) S.1) t)) (src_tup (dd_var 10 o1')) scLwAsked.nd (blkOk_by (own := [("_law_at", 15)]) (N := nLwAsked) (sc := defScope sLwAsked) (by decide +kernel))
      (fun _ _ _ _ _ => pg_name (i := 15) scLwAsked.nd rfl (.inl rfl)) (fun d v H5 hd k5 r s0 H0 C cl fp => ?_) (by rw [dI_len, List.length_map]; exact Nat.le_trans (Nat.le_of_eq (ord_len M.1)) (by omega))
    obtain ⟨i, hi, rfl⟩ := List.mem_map.mp hd
    obtain ⟨q, hq, rfl⟩ := List.mem_map.mp hi
    exact dd_ix (n := q) (dd_var 14 (k5.r b3)) (dd_var 15 r) (dI_at (by rw [List.length_set, hS.len]; exact ord_lt M.1 q hq))
end
end G28
namespace G28
open PySem PySem.Spec PyProof.Rows L2
variable [Tb]
/-- the law's numbers: the place behind the blank, less one -/
theorem idx_num {k : List Int} (hb : (-1) ∉ k) (x : Int) (hx : x = -1 ∨ x ∈ k) : (((-1 :: k).idxOf x : Nat) : Int) - 1 = num k x := by
  unfold num
  by_cases e : x = -1
  · rw [if_pos e, e, List.idxOf_cons_self]
    rfl
  · have e2 : ((-1 : Int) == x) = false := beq_eq_false_iff_ne.mpr fun z => e z.symm
    rw [if_neg e, List.idxOf_cons, e2]
    show ((k.idxOf x + 1 : Nat) : Int) - 1 = _
    omega
section
variable {P : Program} {w : World} {K : PySem.W.Frag} {mg : Str → Option Value} {base : Heap}
/-! ### _law_named -/
def rLNamed (ds : List Da) (d : Da) : Prop := ∃ a b : Sta, a.1.length ≤ 4 ∧ b.1.length ≤ 4 ∧ ds = [dPair (a, b)] ∧ d = dPair (named a b)
theorem c_lnamed (B : Bt mg) (F : DefAt K mg "_law_named" sLwNamed ["_law_pair"]) : Cal P w K mg base 1 "_law_named" ["_law_pair"] (pS K rLNamed) := by
  refine .mkP F scLwNamed (fun ds d ⟨_, _, _, _, e, _⟩ => by rw [e]; rfl) fun f cdv A outer s H vs E ds d hr rs hR => ?_
  obtain ⟨a, b, ha, hb, rfl, rfl⟩ := hR
  obtain ⟨v1, rfl, r1⟩ := rs.c1
  refine b_cons (s_set 1 ((dl_lst (da_cons (dd_neg dd_int) da_nil) (by simp)).go fun u H1 k1 ⟨g, e, hg0, ys0, hy0, ss0⟩ => ?_) scLwNamed.nd)
  subst e
  have e1 : dI a.1 ++ dI b.1 = dI (a.1 ++ b.1) := List.map_append.symm
  have hl : (a.1 ++ b.1).length ≤ 8 := by rw [List.length_append]; omega
  refine b_cons (s_for (M := [g]) (ds := dI (a.1 ++ b.1)) (fun i σ' H' => (∃ o, σ' = [some v1, some (.ref g), o, none, none]) ∧ RL K H' g (dI (-1 :: ((a.1 ++ b.1).take i).foldl addK [])))
    (src_tup (DD.as (by rw [e1]) (dd_cat (dd_rt (dd_ix (n := 0) (dd_ix (n := 0) (dd_var 0 (k1.r r1)) dd_int rfl) dd_int rfl)) (dd_rt (dd_ix (n := 0) (dd_ix (n := 1) (dd_var 0 (k1.r r1)) dd_int rfl) dd_int rfl)) (by rw [dI_len, dI_len]; show a.1.length + b.1.length ≤ 100000; omega))))
    (pg_name (i := 2) scLwNamed.nd rfl (.inl rfl)) (fun H2 k2 => ⟨⟨none, rfl⟩, ys0, k2.l hy0, k2.ra ss0⟩) (fun i d v σ' H3 H4 hd k3 hP k4 r => ?_) fun σ' H3 k3 hP => ?_)
  · obtain ⟨⟨o, rfl⟩, rg⟩ := hP
    have hx : ∃ x, (a.1 ++ b.1)[i]? = some x ∧ d = .int x := by
      rw [List.getElem?_map] at hd
      cases z : (a.1 ++ b.1)[i]? with
      | none => rw [z] at hd; cases hd
      | some n => rw [z] at hd; exact ⟨n, rfl, (Option.some.inj hd).symm⟩
    obtain ⟨x, hx, rfl⟩ := hx
    have step1 : ((a.1 ++ b.1).take (i + 1)).foldl addK [] = addK (((a.1 ++ b.1).take i).foldl addK []) x := by
      rw [List.take_add_one, hx, List.foldl_append]
      rfl
    have lt : (((a.1 ++ b.1).take i).foldl addK []).length ≤ 8 := by
      have := fold_len ((a.1 ++ b.1).take i) []
      rw [List.length_nil, List.length_take] at this
      omega
    rw [step1]
    generalize ((a.1 ++ b.1).take i).foldl addK [] = acc at rg lt
    have rg4 := k4.rl rg
    refine b_one (s_if (dt_niL (dd_var 2 r) (de_list 1 rg4)) (fun hq H5 k5 => ?_) fun hq H5 k5 => b_nil ⟨k5.to, ⟨_, rfl⟩, ?_⟩)
    · have hn : ¬ (x = -1 ∨ x ∈ acc) := by
        intro z
        rw [decide_eq_true (show x ∈ -1 :: acc from List.mem_cons.mpr z)] at hq
        cases hq
      obtain ⟨xs, hxs, rs⟩ := k5.rl rg4
      have xl := rs.len
      rw [dI_len, List.length_cons] at xl
      refine b_one (s_append (de_var 1) hxs (by omega) fun H6 k6 => (dd_var 2 ((k5.trans k6).r r)).go fun y H7 k7 ry => ?_)
      have kw : Kp [g] H7 (upd H7 g (.lst (xs ++ [y]))) := Kp.wr ((k6.trans k7).l hxs) trivial List.mem_cons_self
      refine ⟨(k6.trans k7).l hxs, (k5.trans (k6.trans k7)).to.trans kw, ⟨_, rfl⟩, ?_⟩
      unfold addK
      rw [if_neg hn]
      refine ⟨_, upd_same, ?_⟩
      show RpA K _ _ ((-1 :: acc ++ [x]).map Da.int)
      rw [List.map_append]
      exact (kw.ra ((k6.trans k7).ra rs)).snoc (kw.r ry)
    · have hn : x = -1 ∨ x ∈ acc := by
        by_cases e : x ∈ -1 :: acc
        · exact List.mem_cons.mp e
        · rw [decide_eq_false e] at hq
          cases hq
      unfold addK
      rw [if_pos hn]
      exact k5.rl rg4
  · obtain ⟨⟨o, rfl⟩, rg⟩ := hP
    rw [dI_len, List.take_of_length_le (Nat.le_refl _)] at rg
    have rg' : RL K H3 g (dI (-1 :: known (a.1 ++ b.1))) := rg
    have kH : Kp [] H H3 := (Kp.refl H).close (k1.to.trans k3) hg0
    refine b_one (s_retD kH (dd_tupN ?_ B.tuple))
    have e2 : [dSta (named a b).1, dSta (named a b).2] = [dSta a, dSta b].map (renF (known (a.1 ++ b.1))) := rfl
    rw [e2]
    refine dl_pairs (own := [("_law_row", 3), ("_law_label", 4)]) (n := 3) (m := 4) (renF (known (a.1 ++ b.1))) (src_tup (dd_var 0 (kH.r r1))) scLwNamed.nd (blkOk_by (own := [("_law_row", 3), ("_law_label", 4)]) (N := nLwNamed) (sc := defScope sLwNamed) (by decide +kernel))
      (fun _ _ _ _ _ => pg_tup rfl (pgs_cons (pg_name (i := 3) scLwNamed.nd rfl (.inl rfl)) (pgs_cons (pg_name (i := 4) scLwNamed.nd rfl (.inl rfl)) pgs_nil)))
      (fun d hd => by
        rcases List.mem_cons.mp hd with h | h
        · exact ⟨_, _, h⟩
        · exact ⟨_, _, List.mem_singleton.mp h⟩)
      (fun d1 d2 w1 w2 H4 hd k4 q1 q2 s0 H0 C cl fp => ?_) (by simp)
    have row : ∃ ns : List Int, d1 = .row ns ∧ ns.length ≤ 4 ∧ ∀ y ∈ ns, y ∈ a.1 ++ b.1 := by
      rcases List.mem_cons.mp hd with h | h
      · cases h
        exact ⟨a.1, rfl, ha, fun y hy => List.mem_append_left _ hy⟩
      · cases List.mem_singleton.mp h
        exact ⟨b.1, rfl, hb, fun y hy => List.mem_append_right _ hy⟩
    obtain ⟨ns, rfl, hn4, hns⟩ := row
    refine dd_tp (da_cons (dd_rowN ?_ B.tuple) (da_cons (dd_var 4 q2) da_nil))
    rw [← numF_map]
    refine dl_map (own := [("_law_thing", 2)]) (n := 2) (numF (known (a.1 ++ b.1))) (src_tup (dd_rt (dd_var 3 q1))) scLwNamed.nd (blkOk_by (own := [("_law_thing", 2)]) (N := nLwNamed) (by kernel_rfl))
      (fun _ _ _ _ _ => pg_name (i := 2) scLwNamed.nd rfl (.inl rfl)) (fun d v H5 hd k5 r s1 H01 C1 cl1 fp1 => ?_) (by rw [dI_len]; omega)
    obtain ⟨x, hx, rfl⟩ := List.mem_map.mp hd
    have hk := in_known (hns x hx)
    refine DD.as ?_ (dd_sub (dd_indexL (de_list 1 (k5.rl (k4.rl rg'))) (dd_var 2 r) (List.mem_cons.mpr hk)) dd_int)
    rw [idx_num (fun z => (known_mem.mp z).2 rfl) x hk]
    rfl
/-! ### _law_moved -/
theorem c_lmoved (F : DefAt K mg "_law_moved" sLwMoved ["_law_one", "_law_other", "_law_pair", "_law_number"]) (cS : Cal P w K mg base 1 "_law_asked" ["_law_rule_here", "_law_state", "_law_thing"] (pS K rStep)) (cN : Cal P w K mg base 1 "_law_named" ["_law_pair"] (pS K rLNamed)) : Cal P w K mg base 2 "_law_moved" ["_law_one", "_law_other", "_law_pair", "_law_number"] (pS K rMovedBy) := by
  refine .mkP F scLwMoved (fun ds d ⟨_, _, _, _, _, _, _, e, _⟩ => by rw [e]; rfl) fun f cdv A outer s H vs E ds d hr rs hR => ?_
  obtain ⟨r, q, A0, n, hq, hA, hn, rfl, rfl⟩ := hR
  obtain ⟨v1, v2, v3, v4, rfl, r1, r2, r3, r4⟩ := rs.c4
  refine b_cons (s_par 4 5 ((dd_call cS hr (da_cons (dd_var 0 r1) (da_cons (dd_ix (n := 0) (dd_var 2 r3) dd_int rfl) (da_cons (dd_var 3 r4) da_nil))) ⟨r, A0.1, n, hq.a, hA.a, rfl, rfl⟩).go fun u1 H1 k1 q1 =>
    (dd_call cS hr (da_cons (dd_var 1 (k1.r r2)) (da_cons (dd_ix (n := 1) (dd_var 2 (k1.r r3)) dd_int rfl) (da_cons (dd_var 3 (k1.r r4)) da_nil))) ⟨q, A0.2, n, hq.b, hA.b, rfl, rfl⟩).go fun u2 H2 k2 q2 => ?_) scLwMoved.nd)
  have q1' := k2.r q1
  have o1 := nxt_ok hq.a hA.a hn
  have o2 := nxt_ok hq.b hA.b hn
  exact b_one (s_retD (k1.trans k2) (dd_tp (da_cons (dd_ix (n := 0) (dd_var 4 q1') dd_int rfl) (da_cons (dd_ix (n := 0) (dd_var 5 q2) dd_int rfl) (da_cons (dd_call cN hr (da_cons (dd_tp (da_cons (dd_ix (n := 2) (dd_var 4 q1') dd_int rfl) (da_cons (dd_ix (n := 2) (dd_var 5 q2) dd_int rfl) da_nil))) da_nil)
    ⟨nxt r A0.1 n, nxt q A0.2 n, by rw [o1.len]; exact hq.a.p4, by rw [o2.len]; exact hq.b.p4, rfl, rfl⟩) da_nil)))))
end
end G28
namespace G28
open PySem PySem.Spec PyProof.Rows L2
open NdefX (NF FnO NOk CellsAt nok_of nscope_by TabN TabsN)
open LamX (CodeO TabB ExtN)
variable [Tb]
/-! ### the rows that a walk steps over -/
def dStepRow (r q : Rule) (A : Sta × Sta) (n : Int) : Da := .tuple [.int n, .int (if !hit r A.1 n then 1 else 0), .int (if !hit q A.2 n then 1 else 0), dPair (G28.mv r q A n)]
def rowsOf (r q : Rule) (A : Sta × Sta) : List Da := (List.range ((G28.many A).toNat + 1)).map fun n => dStepRow r q A ((n : Nat) : Int)
def walkRows (r q : Rule) : Sta × Sta → List Int → List Da
  | _, [] => []
  | A, n :: ws => dStepRow r q A n :: walkRows r q (G28.mv r q A n) ws
theorem walkRows_len (r q : Rule) : ∀ (ws : List Int) (A : Sta × Sta), (walkRows r q A ws).length = ws.length
  | [], _ => rfl
  | _ :: ws, A => congrArg (· + 1) (walkRows_len r q ws _)
theorem walkRows_snoc (r q : Rule) (n : Int) : ∀ (ws : List Int) (A : Sta × Sta), walkRows r q A (ws ++ [n]) = walkRows r q A ws ++ [dStepRow r q (endW r q A ws) n]
  | [], _ => rfl
  | m :: ws, A => congrArg (dStepRow r q A m :: ·) (walkRows_snoc r q n ws _)
theorem endW_snoc (r q : Rule) (A : Sta × Sta) (ws : List Int) (n : Int) : endW r q A (ws ++ [n]) = G28.mv r q (endW r q A ws) n := by
  unfold endW
  rw [List.foldl_append] <;> rfl
/-- OkW, cut in two -/
theorem okW_app (r q : Rule) : ∀ (us ws : List Int) (A : Sta × Sta), OkW r q A (us ++ ws) ↔ OkW r q A us ∧ OkW r q (endW r q A us) ws
  | [], ws, A => ⟨fun h => ⟨trivial, h⟩, fun h => h.2⟩
  | n :: us, ws, A => by
    show (_ ∧ _ ∧ OkW r q _ (us ++ ws)) ↔ (_ ∧ _ ∧ OkW r q _ us) ∧ _
    rw [okW_app r q us ws]
    exact ⟨fun ⟨a, b, c, d⟩ => ⟨⟨a, b, c⟩, d⟩, fun ⟨⟨a, b, c⟩, d⟩ => ⟨a, b, c, d⟩⟩
theorem endW_arr {r q : Rule} (h : RR2 r q) : ∀ (ws : List Int) (A : Sta × Sta), Arr r q A → OkW r q A ws → Arr r q (endW r q A ws)
  | [], _, a, _ => a
  | n :: ws, A, a, w => endW_arr h ws _ (a.mv h w.1 (by have := a.many h; have := w.2.1; omega)) w.2.2
/-- is the row that of n -/
def isRowOf (n : Int) : Da → Bool
  | .tuple (.int i :: _) => decide (i = n)
  | _ => false
theorem pick {α : Type} (f : Nat → α) (t : α → Bool) (n : Nat) : ∀ m, n < m → (∀ k, k < m → t (f k) = decide (k = n)) → ((List.range m).map f).filter t = [f n]
  | 0, h, _ => absurd h (Nat.not_lt_zero _)
  | m + 1, h, ht => by
    rw [List.range_succ, List.map_append, List.filter_append]
    have h1 : ((List.map f [m]).filter t) = if m = n then [f m] else [] := by
      show List.filter t [f m] = _
      rw [List.filter_cons, ht m (by omega)]
      by_cases e : m = n
      · rw [if_pos e, if_pos (decide_eq_true e)]
        rfl
      · rw [if_neg e, if_neg (by rw [decide_eq_false e]; exact Bool.false_ne_true)]
        rfl
    rw [h1]
    by_cases e : m = n
    · rw [if_pos e]
      have h2 : ((List.range m).map f).filter t = [] := by
        rw [List.filter_eq_nil_iff]
        intro a ha
        obtain ⟨k, hk, rfl⟩ := List.mem_map.mp ha
        have hk := List.mem_range.mp hk
        rw [ht k (by omega), decide_eq_false (by omega)]
        exact Bool.false_ne_true
      rw [h2, e]
      rfl
    · rw [if_neg e, pick f t n m (by omega) fun k hk => ht k (by omega), List.append_nil]
theorem rowsOf_pick {r q : Rule} {A : Sta × Sta} {n : Int} (h0 : 0 ≤ n) (h1 : n ≤ G28.many A) : ((rowsOf r q A).filter (isRowOf n)).map id = [dStepRow r q A n] := by
  rw [List.map_id]
  unfold rowsOf
  rw [pick _ _ n.toNat _ (by omega) fun k hk => ?_]
  · show [dStepRow r q A (n.toNat : Int)] = _
    rw [Int.toNat_of_nonneg h0]
  · show decide ((k : Int) = n) = decide (k = n.toNat)
    by_cases e : (k : Int) = n
    · rw [decide_eq_true e, decide_eq_true (by omega)]
    · rw [decide_eq_false e, decide_eq_false (by omega)]
/-! ### the inner def -/
abbrev sSteps : Stmt := (defBody sStepsOf).getD 0 (.Pass ⟨0, 0, 0, 0⟩)
abbrev nSteps : List Str := ["arrangement", "one", "other", "found", "number", "mine", "its", "later"]
abbrev qSteps : Str := "steps_of.<locals>.steps"
theorem scSteps : NdefX.NScope nSteps ["arrangement"] ["one", "other"] (C8.fnScope sSteps) := nscope_by (by decide +kernel)
def spSteps (K : PySem.W.Frag) : List (Option V) → Sp := fun ws vs H Q _ => ∃ (w1 w2 v : V) (r q : Rule) (A : Sta × Sta), ws = [some w1, some w2] ∧ vs = [v] ∧ RR2 r q ∧ Arr r q A ∧ Rp K H w1 (dRule r) ∧ Rp K H w2 (dRule q) ∧ Rp K H v (dPair A) ∧ ∀ p H', Kp [] H H' → H p = none → RL K H' p (rowsOf r q A) → Q (.ref p) H'
section
variable {P : Program} {w : World} {K : PySem.W.Frag} {mg : Str → Option Value} {base : Heap}
theorem steps_ok (B : Bt mg) (cH : Cal P w K mg base 1 "how_many" ["arrangement"] (pS K rHowMany)) (cM : Cal P w K mg base 3 "moved_by" ["one", "other", "arrangement", "number"] (pS K rMovedBy)) (f c : Addr) (cl : List (Str × Addr)) : NOk P w K mg base CX0 4 f (NF.of sSteps "steps" qSteps cl c) ["arrangement"] ["one", "other"] (spSteps K) := by
  refine nok_of (N := nSteps) scSteps (fun doc pm ctv us hl => match us, hl with | [_], _ => rfl) (fun ws vs H Q E ⟨_, _, _, _, _, _, _, e, _⟩ => by rw [e]; rfl) fun A outer s H vs ws Q E hr hf hc hl hsp => ⟨_, PSs.nox wB_ps, ?_⟩
  obtain ⟨w1, w2, v, r, q, A0, rfl, rfl, hq, hA, r1, r2, r3, qq⟩ := hsp
  have h8 := hA.many hq
  refine b_cons (s_set 3 ((dl_lst (da_nil) (by simp)).go fun u H1 k1 ⟨g, e, hg0, ys0, hy0, ss0⟩ => ?_) scSteps.nd)
  subst e
  cases ss0
  refine b_cons (s_for (M := [g]) (ds := dI (upto ((G28.many A0).toNat + 1))) (fun i σ' H' => ∃ o4 o5 o6 o7, σ' = [some v, some w1, some w2, some (.ref g), o4, o5, o6, o7] ∧ RL K H' g ((List.range i).map fun n => dStepRow r q A0 ((n : Nat) : Int)))
    (src_range (DD.as (show Da.int (G28.many A0 + 1) = _ by rw [show G28.many A0 + 1 = (((G28.many A0).toNat + 1 : Nat) : Int) by omega]) (dd_add (dd_call cH (hr.mono (by decide)) (da_cons (dd_var 0 (k1.r r3)) da_nil) ⟨r, q, A0, hq, hA, rfl, rfl⟩) dd_int)) (by omega) B.range) (pg_name (i := 4) scSteps.nd rfl (.inl rfl)) (fun H2 k2 => ⟨none, none, none, none, rfl, [], k2.l hy0, .nil⟩) (fun i d x σ' H3 H4 hd k3 hP k4 rv => ?_) fun σ' H3 k3 hP => ?_)
  · obtain ⟨o4, o5, o6, o7, rfl, rg⟩ := hP
    obtain ⟨rfl, hi⟩ := upto_at hd
    have k14 : Kp [g] H H4 := (k1.to.trans k3).trans k4.to
    have n99 : (0 : Int) ≤ (i : Int) ∧ (i : Int) ≤ 99 := by omega
    refine b_cons (s_three (n := 5) (m := 6) (l := 7) (dd_call cM hr (da_cons (dd_var 1 (k14.r r1)) (da_cons (dd_var 2 (k14.r r2)) (da_cons (dd_var 0 (k14.r r3)) (da_cons (dd_var 4 rv) da_nil)))) ⟨r, q, A0, (i : Int), hq, hA.p, n99, rfl, rfl⟩) (fun u1 u2 u3 H5 k5 q1 q2 q3 => ?_)
      (pg_tup rfl (pgs_cons (pg_name (i := 5) scSteps.nd rfl (.inl rfl)) (pgs_cons (pg_name (i := 6) scSteps.nd rfl (.inl rfl)) (pgs_cons (pg_name (i := 7) scSteps.nd rfl (.inl rfl)) pgs_nil)))))
    obtain ⟨xs, hx, rs⟩ := (k4.trans k5).rl rg
    have xl := rs.len
    rw [List.length_map, List.length_range] at xl
    refine b_one (s_append (de_var 3) hx (by omega) fun H6 k6 => (dd_tp (da_cons (dd_var 4 ((k5.trans k6).r rv)) (da_cons (dd_intB (dd_not (dd_var 5 (k6.r q1))) B.int) (da_cons (dd_intB (dd_not (dd_var 6 (k6.r q2))) B.int) (da_cons (dd_var 7 (k6.r q3)) da_nil))))).go fun y H7 k7 ry => ?_)
    have hx7 := (k6.trans k7).l hx
    refine ⟨hx7, ((k5.trans k6).trans k7).to.trans (Kp.wr hx7 trivial List.mem_cons_self), _, _, _, _, rfl, _, upd_same, ?_⟩
    rw [List.range_succ, List.map_append]
    have kw : Kp [g] H7 (upd H7 g (.lst (xs ++ [y]))) := Kp.wr hx7 trivial List.mem_cons_self
    exact (kw.ra ((k6.trans k7).ra rs)).snoc (kw.r ry)
  · obtain ⟨o4, o5, o6, o7, rfl, rg⟩ := hP
    rw [dI_upto_len] at rg
    have kH : Kp [] H H3 := (Kp.refl H).close (k1.to.trans k3) hg0
    exact b_one (s_ret ((de_list 3 rg).go fun z H4 k4 ⟨e, rl⟩ => by
      subst e
      exact qq g H4 (kH.trans k4) hg0 rl))
end
end G28
namespace G28
open PySem PySem.Spec PyProof.Rows L2
open NdefX (NF FnO NOk CellsAt nok_of nscope_by TabN TabsN)
open LamX (CodeO TabB ExtN)
variable [Tb]
/-! ### the steps' function, once made -/
structure Stp (K : PySem.W.Frag) (H : Hp) (f : Addr) (r q : Rule) : Prop where
  at_ : ∃ (c : Addr) (cl : List (Str × Addr)) (w1 w2 : V), H f = some (FnO f (NF.of sSteps "steps" qSteps cl c)) ∧ H c = some (CodeO c qSteps) ∧ Clo H cl ["one", "other"] [w1, w2] ∧ Rp K H w1 (dRule r) ∧ Rp K H w2 (dRule q)
theorem Stp.up {K : PySem.W.Frag} {M : List Addr} {H H' : Hp} {f : Addr} {r q : Rule} (h : Stp K H f r q) (k : Kp M H H') (hM : ∀ b o, H b = some o → b ∈ M → ∃ xs, o = .lst xs) : Stp K H' f r q := by
  obtain ⟨c, cl, w1, w2, h1, h2, C, r1, r2⟩ := h.at_
  have ne : ∀ {b : Addr} {o : HO}, H b = some o → (∀ xs, o ≠ .lst xs) → b ∉ M := fun {b o} e n z => by
    obtain ⟨xs, e2⟩ := hM b o e z
    exact n xs e2
  exact ⟨c, cl, w1, w2, k.keep _ _ h1 (ne h1 fun _ z => by unfold FnO at z; cases z) (fun _ z => by unfold FnO at z; cases z), k.keep _ _ h2 (ne h2 fun _ z => by unfold CodeO at z; cases z) (fun _ z => by unfold CodeO at z; cases z), C.up k, k.r r1, k.r r2⟩
theorem Stp.up0 {K : PySem.W.Frag} {H H' : Hp} {f : Addr} {r q : Rule} (h : Stp K H f r q) (k : Kp [] H H') : Stp K H' f r q := h.up k fun _ _ _ z => absurd z (by simp)
section
variable {P : Program} {w : World} {K : PySem.W.Frag} {mg : Str → Option Value} {base : Heap}
abbrev SOk (P : Program) (w : World) (K : PySem.W.Frag) (mg : Str → Option Value) (base : Heap) : Prop := ∀ (f c : Addr) (cl : List (Str × Addr)), NOk P w K mg base CX0 4 f (NF.of sSteps "steps" qSteps cl c) ["arrangement"] ["one", "other"] (spSteps K)
/-- steps_of(here) in followed -/
theorem dl_steps {X : Cx} {a : Expr} {σ : L2.St} {H : Hp} {pos p : Pos} {x : Str} {f : Addr} {r q : Rule} {A : Sta × Sta} (i : Nat) (SO : SOk X.prog X.w X.K X.mg X.base) (hr : Room 4 X.A) (hq : RR2 r q) (hA : Arr r q A) (S : Stp X.K H f r q) (ha : DD X a σ H (dPair A)) (hs : σ[i]? = some (some (.ref f)) := by rfl)
    (hN : X.N[i]? = some x := by rfl) (hv : Vis X.env.scope x := by first | exact Or.inl rfl | exact Or.inr (Or.inl rfl) | exact Or.inr (Or.inr rfl)) (hd : (x == ("__debug__" : Str)) = false := by decide) (hcd : (x == ("__classdict__" : Str)) = false := by decide)
    (he : starEach [a] X.env = (false, eval a X.env) :: starEach [] X.env := by rfl) (hpl : (backTo pos (starEach [] X.env)).any (·.1) = false := by rfl) : DL X (.Call (.Name x p) [a] [] pos) σ H (rowsOf r q A) := fun H1 k1 => by
  obtain ⟨c, cl, w1, w2, h1, h2, C, r1, r2⟩ := (S.up0 k1).at_
  refine w_esc (F := NF.of sSteps "steps" qSteps cl c) (fr := ["one", "other"]) (ws := [w1, w2]) (SO f c cl) hr (Nat.le_refl _) h1 hs (w_args ((ha.up k1).go fun v H2 k2 rv => w_args0 ?_) he) hN hv hd hcd he hpl
  obtain C2 := C.up k2
  have hide : ∀ {v : V} {d : Da}, Rp X.K H2 v d → Rp X.K (hid cl H2) v d := fun {v d} r => by
    have := Rp.hide C2 (.cons r .nil)
    cases this with
    | cons a _ => exact a
  refine ⟨k2.keep _ _ h1 (by simp) (fun _ z => by unfold FnO at z; cases z), k2.keep _ _ h2 (by simp) (fun _ z => by unfold CodeO at z; cases z), C2, w1, w2, v, r, q, A, rfl, rfl, hq, hA, hide (k2.r r1), hide (k2.r r2), hide rv, fun l H3 k3 hl rl free => ?_⟩
  have k23 : Kp [] H2 (shw cl H2 H3) := Kp.show_ C2 k3 free
  obtain ⟨xs, hx, rs⟩ := rl
  have nl : ¬ InC cl l := fun z => by rw [free l z] at hx; cases hx
  refine ⟨k2.trans k23, l, rfl, ?_, xs, shw_at free hx, rs.shown free⟩
  have hl' : hid cl H2 l = none := hl
  rw [hid_out nl] at hl'
  exact k1.fresh (k2.fresh hl')
/-! ### followed, end_of -/
def spFollowed (K : PySem.W.Frag) : Sp := fun vs H Q _ => ∃ (v1 v3 : V) (f : Addr) (r q : Rule) (A : Sta × Sta) (ws : List Int), vs = [v1, .ref f, v3] ∧ RR2 r q ∧ Arr r q A ∧ OkW r q A ws ∧ ws.length ≤ 1000 ∧ Rp K H v1 (dPair A) ∧ Rp K H v3 (.tuple (dI ws)) ∧ Stp K H f r q ∧ ∀ l H', Kp [] H H' → H l = none → RL K H' l (walkRows r q A ws) → Q (.ref l) H'
theorem c_followed (B : Bt mg) (SO : SOk P w K mg base) (F : DefAt K mg "followed" sFollowed ["here", "steps_of", "names"]) : Cal P w K mg base 5 "followed" ["here", "steps_of", "names"] (spFollowed K) := by
  refine .mkW F scFollowed (fun vs H Q E ⟨_, _, _, _, _, _, _, e, _⟩ => by rw [e]; rfl) fun f0 cdv A outer s H vs Q E hr hsp => ?_
  obtain ⟨v1, v3, f, r, q, A0, ws, rfl, hq, hA, hw, hl, r1, r3, S, qq⟩ := hsp
  refine b_cons (s_ifF (Dt.as (by rfl) (dt_not (dt_val (dd_isi (dd_var 2 r3) (fun _ _ r => tup_ty r) (k := true) (by decide +kernel) B.isi B.tuple boot_tuple)))) fun H1 k1 => b_nil ?_)
  refine b_cons (s_set 3 ((dl_lst (da_nil) (by simp)).go fun u H2 k2 ⟨g, e, hg0, ys0, hy0, ss0⟩ => ?_) scFollowed.nd)
  subst e
  cases ss0
  have k12 := k1.trans k2
  have g0 : H g = none := k1.fresh hg0
  refine b_cons (s_for (M := [g]) (ds := dI ws) (fun i σ' H' => ∃ (u : V) (o4 o5 : Option V), σ' = [some u, some (.ref f), some v3, some (.ref g), o4, o5, none] ∧ Rp K H' u (dPair (endW r q A0 (ws.take i))) ∧ RL K H' g (walkRows r q A0 (ws.take i)))
    (src_tup (dd_var 2 (k12.r r3))) (pg_name (i := 4) scFollowed.nd rfl (.inr rfl)) (fun H3 k3 => ⟨v1, none, none, rfl, (k12.trans k3).r r1, [], k3.l hy0, .nil⟩) (fun i d x σ' H3 H4 hd k3 hP k4 rv => ?_) fun σ' H3 k3 hP => ?_)
  · obtain ⟨u, o4, o5, rfl, ru, rg⟩ := hP
    have hi : ∃ n, ws[i]? = some n ∧ d = .int n := by
      rw [List.getElem?_map] at hd
      cases z : ws[i]? with
      | none => rw [z] at hd; cases hd
      | some n => rw [z] at hd; exact ⟨n, rfl, (Option.some.inj hd).symm⟩
    obtain ⟨n, hn, rfl⟩ := hi
    have hi := (List.getElem?_eq_some_iff.mp hn).1
    have tk : ws.take (i + 1) = ws.take i ++ [n] := by rw [List.take_add_one, hn] <;> rfl
    have gi : ws[i] = n := by
      rw [List.getElem?_eq_getElem hi] at hn
      exact Option.some.inj hn
    have e0 : ws.take i ++ n :: ws.drop (i + 1) = ws := by rw [← gi, ← List.drop_eq_getElem_cons hi, List.take_append_drop]
    have hw2 : OkW r q A0 (ws.take i ++ n :: ws.drop (i + 1)) := by
      rw [e0]
      exact hw
    rw [okW_app] at hw2
    obtain ⟨w1, w2, w3, w4⟩ := hw2
    have hA2 := endW_arr hq _ _ hA w1
    have h8 := hA2.many hq
    have k24 : Kp [g] H H4 := (k12.to.trans k3).trans k4.to
    have S4 : Stp K H4 f r q := S.up k24 fun b o hb hm => by
      rw [List.mem_singleton.mp hm, g0] at hb
      cases hb
    have ru4 := k4.r ru
    refine b_cons (s_setc 5 (own := [("row", 6)]) (n := 6) (isRowOf n) id (src_new (dl_steps 1 SO hr hq hA2 S4 (dd_var 0 ru4))) scFollowed.nd (blkOk_by (own := [("row", 6)]) (N := nFollowed) (sc := defScope sFollowed) (by decide +kernel)) (fun _ _ _ _ _ => pg_name (i := 6) scFollowed.nd rfl (.inl rfl)) (fun d z H5 hd k5 rz s0 H0 C cl fp => ?_) (fun d z H5 hd _ k5 rz s0 H0 C cl fp => dd_var 6 rz) ?_ fun l H5 k5 hl5 rl => ?_)
    · obtain ⟨m, hm, rfl⟩ := List.mem_map.mp hd
      have hm := List.mem_range.mp hm
      exact dt_repr (de_repr (dd_ix (n := 0) (dd_var 6 rz) dd_int rfl) (by omega) (by omega) B.repr) (de_repr (dd_var 4 (k5.r rv)) w2 (by omega) B.repr) (by omega) (by omega) w2 (by omega)
    · show (rowsOf _ _ _).length ≤ _
      unfold rowsOf
      rw [List.length_map, List.length_range]
      omega
    rw [rowsOf_pick w2 w3] at rl
    refine b_cons (s_ifF (Dt.as (by rfl) (dt_not (dt_lst (de_list 5 rl)))) fun H6 k6 => b_nil ?_)
    have k46 := k5.trans k6
    obtain ⟨xs, hx, rs⟩ := (k4.trans k46).rl rg
    have xl := rs.len
    rw [walkRows_len, List.length_take] at xl
    refine b_cons (s_append (de_var 3) hx (by omega) fun H7 k7 => (dd_ixL (n := 0) (de_list 5 ((k6.trans k7).rl rl)) dd_int rfl).go fun y H8 k8 ry => ?_)
    have hx8 := (k7.trans k8).l hx
    have lg : l ≠ g := fun z => by
      rw [z, k4.l rg.choose_spec.1] at hl5
      cases hl5
    have kw : Kp [g] H8 (upd H8 g (.lst (xs ++ [y]))) := Kp.wr hx8 trivial List.mem_cons_self
    refine ⟨hx8, ?_⟩
    refine b_one (s_set 0 ((dd_ix (n := 3) (dd_ixL (n := 0) (de_list 5 (kw.rl (((k6.trans k7).trans k8).rl rl) (by simpa using lg))) dd_int rfl) dd_int rfl).go fun z H9 k9 rz => ?_) scFollowed.nd)
    refine ⟨((k46.trans (k7.trans k8)).to.trans kw).trans k9.to, z, _, _, rfl, ?_, ?_⟩
    · rw [tk, endW_snoc]
      exact rz
    · rw [tk, walkRows_snoc]
      exact ⟨_, k9.l upd_same, k9.ra ((kw.ra ((k7.trans k8).ra rs)).snoc (kw.r ry))⟩
  · obtain ⟨u, o4, o5, rfl, ru, rg⟩ := hP
    rw [dI_len, List.take_of_length_le (Nat.le_refl _)] at rg
    have kH : Kp [] H H3 := (Kp.refl H).close (k12.to.trans k3) g0
    exact b_one (s_ret ((de_list 3 rg).go fun z H4 k4 ⟨e, rl⟩ => by
      subst e
      exact qq g H4 (kH.trans k4) g0 rl))
def spEndOf (K : PySem.W.Frag) : Sp := fun vs H Q _ => ∃ (v1 : V) (l : Addr) (r q : Rule) (A : Sta × Sta) (ws : List Int), vs = [v1, .ref l] ∧ Rp K H v1 (dPair A) ∧ RL K H l (walkRows r q A ws) ∧ ∀ v H', Kp [] H H' → Rp K H' v (dPair (endW r q A ws)) → Q v H'
theorem c_endOf (F : DefAt K mg "end_of" sEndOf ["first", "steps"]) : Cal P w K mg base 1 "end_of" ["first", "steps"] (spEndOf K) := by
  refine .mkW F scEndOf (fun vs H Q E ⟨_, _, _, _, _, _, e, _⟩ => by rw [e]; rfl) fun f0 cdv A outer s H vs Q E hr hsp => ?_
  obtain ⟨v1, l, r, q, A0, ws, rfl, r1, rl, qq⟩ := hsp
  refine b_one (s_ret ((de_if (R := fun v H2 => Rp K H2 v (dPair (endW r q A0 ws))) (dt_lst (de_list 1 rl)) (fun hq => ?_) fun hq => ?_).go fun v H1 k1 rv => qq v H1 k1 rv))
  · rcases List.eq_nil_or_concat ws with e | ⟨us, n, e⟩
    · subst e
      cases hq
    · have e : ws = us ++ [n] := by rw [e, List.concat_eq_append]
      subst e
      rw [walkRows_snoc] at rl
      rw [endW_snoc]
      exact dd_ix (n := 3) (dd_last (d := dStepRow r q (endW r q A0 us) n) (de_list 1 rl) (dd_neg dd_int)) dd_int rfl
  · have e : ws = [] := by
      cases ws with
      | nil => rfl
      | cons _ _ => cases hq
    subst e
    exact dd_var 0 r1
end
end G28
namespace G28
open PySem PySem.Spec PyProof.Rows L2
open NdefX (NF FnO NOk CellsAt nok_of nscope_by TabN TabsN)
open LamX (CodeO TabB ExtN)
variable [Tb]
theorem play_step {one other : Rule} (R1 : RuleOk one) (R2 : RuleOk other) {A : Sta × Sta} {used n : Int} {w : List Int} (h : PairOk one other A) (B : Below A used) (hu : 0 ≤ used) (hl : used + (w.length + 1 : Nat) ≤ 99) (hw : OkW one other (nam A) (n :: w)) :
    (0 ≤ thingOf A used n ∧ thingOf A used n ≤ 99) ∧ PairOk one other (ask one other A (thingOf A used n)) ∧ Below (ask one other A (thingOf A used n)) (max used (thingOf A used n + 1)) ∧ max used (thingOf A used n + 1) + (w.length : Nat) ≤ 99 ∧ OkW one other (nam (ask one other A (thingOf A used n))) w ∧ 0 ≤ n ∧ n ≤ many A := by
  obtain ⟨w1, w2, w3⟩ := hw
  rw [many_nam] at w2
  have hlo : ∀ x ∈ A.1.1 ++ A.2.1, -1 ≤ x := fun x hx => (List.mem_append.mp hx).elim (fun z => (h.a.rng x z).1) fun z => (h.b.rng x z).1
  have T := thing_ok B hu w1 w2 hlo
  have t99 : 0 ≤ thingOf A used n ∧ thingOf A used n ≤ 99 := ⟨T.2.1, by omega⟩
  have m := (mv_named R1 R2 h.a h.b (thingOf A used n)).2.2
  rw [T.1] at m
  rw [m] at w3
  refine ⟨t99, ask_ok R1 R2 h t99, fun x hx => ?_, by omega, w3, w1, w2⟩
  rcases List.mem_append.mp hx with z | z
  · exact nxt_below R1 h.a (fun y hy => Int.lt_of_lt_of_le (B y (List.mem_append_left _ hy)) (Int.le_max_left _ _)) (by omega) x z
  · exact nxt_below R2 h.b (fun y hy => Int.lt_of_lt_of_le (B y (List.mem_append_right _ hy)) (Int.le_max_left _ _)) (by omega) x z
theorem first_below {r q : Rule} : Below (first r, first q) 0 := fun x hx => by
  have : x = -1 := (List.mem_append.mp hx).elim List.eq_of_mem_replicate List.eq_of_mem_replicate
  omega
theorem dI_get {ws : List Int} {i : Nat} {d : Da} (h : (dI ws)[i]? = some d) : ∃ n, ws[i]? = some n ∧ d = .int n ∧ i < ws.length ∧ ws.drop i = n :: ws.drop (i + 1) := by
  rw [List.getElem?_map] at h
  cases z : ws[i]? with
  | none => rw [z] at h; cases h
  | some n =>
    rw [z] at h
    have hi := (List.getElem?_eq_some_iff.mp z).1
    have gi : ws[i] = n := by
      rw [List.getElem?_eq_getElem hi] at z
      exact Option.some.inj z
    exact ⟨n, rfl, (Option.some.inj h).symm, hi, by rw [← gi, ← List.drop_eq_getElem_cons hi]⟩
abbrev A0 (r q : Rule) : Sta × Sta := (first r, first q)
section
variable {P : Program} {w : World} {K : PySem.W.Frag} {mg : Str → Option Value} {base : Heap}
abbrev CMk (P : Program) (w : World) (K : PySem.W.Frag) (mg : Str → Option Value) (base : Heap) : Prop := Cal P w K mg base 1 "steps_of" ["one", "other"] (spMk sSteps "steps" qSteps ["one", "other"])
/-! ### walk_of, need_walk, walked -/
def spWalk (K : PySem.W.Frag) : Sp := fun vs H Q _ => ∃ (v1 v2 v3 : V) (r q : Rule) (ws : List Int), vs = [v1, v2, v3] ∧ RR2 r q ∧ OkW r q (A0 r q) ws ∧ ws.length ≤ 1000 ∧ Rp K H v1 (dRule r) ∧ Rp K H v2 (dRule q) ∧ Rp K H v3 (.tuple (dI ws)) ∧ TabOk H ∧ ∀ l H', Kp [] H H' → RL K H' l (walkRows r q (A0 r q) ws) → Q (.ref l) H'
theorem c_walkOf (F : DefAt K mg "walk_of" sWalkOf ["one", "other", "walk"]) (cP : Cal P w K mg base 2 "first_pair" ["one", "other"] (pS K rFirstPair)) (cM : CMk P w K mg base) (cF : Cal P w K mg base 5 "followed" ["here", "steps_of", "names"] (spFollowed K)) : Cal P w K mg base 6 "walk_of" ["one", "other", "walk"] (spWalk K) := by
  refine .mkW F scWalkOf (fun vs H Q E ⟨_, _, _, _, _, _, e, _⟩ => by rw [e]; rfl) fun f0 cdv A outer s H vs Q E hr hsp => ?_
  obtain ⟨v1, v2, v3, r, q, ws, rfl, hq, hw, hl, r1, r2, r3, ht, qq⟩ := hsp
  refine b_one (s_ret (w_call cF hr (w_args ((dd_call cP (hr.mono (by decide)) (da_cons (dd_var 0 r1) (da_cons (dd_var 1 r2) da_nil)) ⟨r, q, hq.a, hq.b, rfl, rfl⟩).go fun u1 H1 k1 q1 => w_args (w_call cM (hr.mono (by decide)) (DA.go (da_cons (dd_var 0 (k1.r r1)) (da_cons (dd_var 1 (k1.r r2)) da_nil)) fun us H2 k2 rs => ?_))))))
  obtain ⟨u3, u4, rfl, q3, q4⟩ := rs.c2
  refine ⟨(k1.trans k2).tabs ht, rfl, fun f' c' cl H3 k3 nf hf hc C => w_args ((dd_var 2 (((k1.trans k2).trans k3).r r3)).go fun u5 H4 k4 q5 => w_args0 ⟨u1, u5, f', r, q, A0 r q, ws, rfl, hq, first_Arr hq, hw, hl, ((k2.trans k3).trans k4).r q1, q5, ?_, fun l H5 k5 _ rl => qq l H5 ((((k1.trans k2).trans k3).trans k4).trans k5) rl⟩)⟩
  exact Stp.up0 ⟨c', cl, u3, u4, hf, hc, C, k3.r q3, k3.r q4⟩ k4
theorem c_needWalk (F : DefAt K mg "need_walk" sNeedWalk ["one", "other", "walk"]) (cR : Cal P w K mg base 8 "need_rules" ["one", "other"] (pS K rNeedRules)) (cW : Cal P w K mg base 6 "walk_of" ["one", "other", "walk"] (spWalk K)) : Cal P w K mg base 9 "need_walk" ["one", "other", "walk"] (spWalk K) := by
  refine .mkW F scNeedWalk (fun vs H Q E ⟨_, _, _, _, _, _, e, _⟩ => by rw [e]; rfl) fun f0 cdv A outer s H vs Q E hr hsp => ?_
  obtain ⟨v1, v2, v3, r, q, ws, rfl, hq, hw, hl, r1, r2, r3, ht, qq⟩ := hsp
  refine b_cons (s_expr ((dd_call cR hr (da_cons (dd_var 0 r1) (da_cons (dd_var 1 r2) da_nil)) ⟨r, q, hq.a, hq.b, rfl, rfl⟩).go fun _ H1 k1 _ => ?_))
  refine b_cons (s_set 3 (w_call cW (hr.mono (by decide)) (DA.go (da_cons (dd_var 0 (k1.r r1)) (da_cons (dd_var 1 (k1.r r2)) (da_cons (dd_var 2 (k1.r r3)) da_nil))) fun us H2 k2 rs => ?_)) scNeedWalk.nd)
  obtain ⟨u1, u2, u3, rfl, q1, q2, q3⟩ := rs.c3
  refine ⟨u1, u2, u3, r, q, ws, rfl, hq, hw, hl, q1, q2, q3, (k1.trans k2).tabs ht, fun l H3 k3 rl => ?_⟩
  exact b_cons (s_ifF (dt_lstN (de_var 3)) fun H4 k4 => b_nil (b_one (s_ret ((de_list 3 (k4.rl rl)).go fun z H5 k5 ⟨e, rl5⟩ => by
    subst e
    exact qq l H5 (((k1.trans k2).trans k3).trans (k4.trans k5)) rl5))))
def rWalked (ds : List Da) (d : Da) : Prop := ∃ (r q : Rule) (ws : List Int), RR2 r q ∧ OkW r q (A0 r q) ws ∧ ws.length ≤ 1000 ∧ ds = [dRule r, dRule q, .tuple (dI ws)] ∧ d = dPair (endW r q (A0 r q) ws)
theorem pT_len {R : List Da → Da → Prop} {m : Nat} (hl : ∀ ds d, R ds d → ds.length = m) {vs : List V} {H : Hp} {Q : VK} {E : XK} (h : pT K R vs H Q E) : vs.length = m := by
  obtain ⟨_, ds, d, rs, hR, _⟩ := h
  rw [rs.len, hl ds d hR]
theorem c_walked (F : DefAt K mg "walked" sWalked ["one", "other", "walk"]) (cW : Cal P w K mg base 9 "need_walk" ["one", "other", "walk"] (spWalk K)) (cP : Cal P w K mg base 2 "first_pair" ["one", "other"] (pS K rFirstPair)) (cE : Cal P w K mg base 1 "end_of" ["first", "steps"] (spEndOf K)) : Cal P w K mg base 10 "walked" ["one", "other", "walk"] (pT K rWalked) := by
  refine .mkW F scWalked (fun vs H Q E h => pT_len (m := 3) (fun ds d ⟨_, _, _, _, _, _, e, _⟩ => by rw [e]; rfl) h) fun f0 cdv A outer s H vs Q E hr hsp => ?_
  obtain ⟨ht, ds, d, rs, ⟨r, q, ws, hq, hw, hl, rfl, rfl⟩, qq⟩ := hsp
  obtain ⟨v1, v2, v3, rfl, r1, r2, r3⟩ := rs.c3
  refine b_cons (s_set 3 (w_call cW hr (DA.go (da_cons (dd_var 0 r1) (da_cons (dd_var 1 r2) (da_cons (dd_var 2 r3) da_nil))) fun us H2 k2 rs => ?_)) scWalked.nd)
  obtain ⟨u1, u2, u3, rfl, q1, q2, q3⟩ := rs.c3
  refine ⟨u1, u2, u3, r, q, ws, rfl, hq, hw, hl, q1, q2, q3, k2.tabs ht, fun l H3 k3 rl => ?_⟩
  have k03 := k2.trans k3
  refine b_one (s_ret (w_call cE (hr.mono (by decide)) (w_args ((dd_call cP (hr.mono (by decide)) (da_cons (dd_var 0 (k03.r r1)) (da_cons (dd_var 1 (k03.r r2)) da_nil)) ⟨r, q, hq.a, hq.b, rfl, rfl⟩).go fun u4 H4 k4 q4 => w_args ((de_list 3 (k4.rl rl)).go fun u5 H5 k5 ⟨e, rl5⟩ => w_args0 ?_)))))
  subst e
  exact ⟨u4, l, r, q, A0 r q, ws, rfl, k5.r q4, rl5, fun v H6 k6 rv => qq v H6 ((k03.trans (k4.trans k5)).trans k6) rv⟩
/-! ### seen_in, played -/
def spSeen (K : PySem.W.Frag) : Sp := fun vs H Q _ => ∃ (v1 v2 : V) (a b : Sta), vs = [v1, v2] ∧ a.1.length ≤ 4 ∧ b.1.length ≤ 4 ∧ Rp K H v1 (dSta a) ∧ Rp K H v2 (dSta b) ∧ ∀ l H', Kp [] H H' → H l = none → RL K H' l (dI (known (a.1 ++ b.1))) → Q (.ref l) H'
theorem c_seenIn (B : Bt mg) (F : DefAt K mg "seen_in" sSeenIn ["mine", "its"]) : Cal P w K mg base 1 "seen_in" ["mine", "its"] (spSeen K) := by
  refine .mkW F scSeenIn (fun vs H Q E ⟨_, _, _, _, e, _⟩ => by rw [e]; rfl) fun f0 cdv A outer s H vs Q E hr hsp => ?_
  obtain ⟨v1, v2, a, b, rfl, ha, hb, r1, r2, qq⟩ := hsp
  refine b_cons (s_set 2 ((dl_lst (da_nil) (by simp)).go fun u H1 k1 ⟨g, e, hg0, ys0, hy0, ss0⟩ => ?_) scSeenIn.nd)
  subst e
  cases ss0
  have e1 : dI a.1 ++ dI b.1 = dI (a.1 ++ b.1) := List.map_append.symm
  have hl : (a.1 ++ b.1).length ≤ 8 := by rw [List.length_append]; omega
  refine b_cons (s_for (M := [g]) (ds := dI (a.1 ++ b.1)) (fun i σ' H' => (∃ o, σ' = [some v1, some v2, some (.ref g), o]) ∧ RL K H' g (dI (((a.1 ++ b.1).take i).foldl addK [])))
    (src_tup (DD.as (by rw [e1]) (dd_cat (dd_rt (dd_ix (n := 0) (dd_var 0 (k1.r r1)) dd_int rfl)) (dd_rt (dd_ix (n := 0) (dd_var 1 (k1.r r2)) dd_int rfl)) (by rw [dI_len, dI_len]; omega))))
    (pg_name (i := 3) scSeenIn.nd rfl (.inl rfl)) (fun H2 k2 => ⟨⟨none, rfl⟩, [], k2.l hy0, .nil⟩) (fun i d v σ' H3 H4 hd k3 hP k4 r => ?_) fun σ' H3 k3 hP => ?_)
  · obtain ⟨⟨o, rfl⟩, rg⟩ := hP
    obtain ⟨x, hx, rfl, hi, _⟩ := dI_get hd
    have step1 : ((a.1 ++ b.1).take (i + 1)).foldl addK [] = addK (((a.1 ++ b.1).take i).foldl addK []) x := by
      rw [List.take_add_one, hx, List.foldl_append]
      rfl
    have lt : (((a.1 ++ b.1).take i).foldl addK []).length ≤ 8 := by
      have := fold_len ((a.1 ++ b.1).take i) []
      rw [List.length_nil, List.length_take] at this
      omega
    rw [step1]
    generalize ((a.1 ++ b.1).take i).foldl addK [] = acc at rg lt
    have rg4 := k4.rl rg
    refine b_one (s_if (dt_and (dt_ne (dd_var 3 r) (dd_glob B.blank)) fun _ => dt_niL (dd_var 3 r) (de_list 2 rg4)) (fun hq H5 k5 => ?_) fun hq H5 k5 => b_nil ⟨k5.to, ⟨_, rfl⟩, ?_⟩)
    · have hn : ¬ (x = -1 ∨ x ∈ acc) := by
        intro z
        rcases z with z | z
        · rw [decide_eq_true z] at hq
          cases hq
        · rw [decide_eq_true z, Bool.not_true, Bool.and_false] at hq
          cases hq
      obtain ⟨xs, hxs, rs⟩ := k5.rl rg4
      have xl := rs.len
      rw [dI_len] at xl
      refine b_one (s_append (de_var 2) hxs (by omega) fun H6 k6 => (dd_var 3 ((k5.trans k6).r r)).go fun y H7 k7 ry => ?_)
      have kw : Kp [g] H7 (upd H7 g (.lst (xs ++ [y]))) := Kp.wr ((k6.trans k7).l hxs) trivial List.mem_cons_self
      refine ⟨(k6.trans k7).l hxs, (k5.trans (k6.trans k7)).to.trans kw, ⟨_, rfl⟩, ?_⟩
      unfold addK
      rw [if_neg hn]
      refine ⟨_, upd_same, ?_⟩
      show RpA K _ _ ((acc ++ [x]).map Da.int)
      rw [List.map_append]
      exact (kw.ra ((k6.trans k7).ra rs)).snoc (kw.r ry)
    · have hn : x = -1 ∨ x ∈ acc := by
        by_cases e : x = -1
        · exact .inl e
        · by_cases e2 : x ∈ acc
          · exact .inr e2
          · rw [decide_eq_false e, decide_eq_false e2] at hq
            cases hq
      unfold addK
      rw [if_pos hn]
      exact k5.rl rg4
  · obtain ⟨⟨o, rfl⟩, rg⟩ := hP
    rw [dI_len, List.take_of_length_le (Nat.le_refl _)] at rg
    have kH : Kp [] H H3 := (Kp.refl H).close (k1.to.trans k3) hg0
    exact b_one (s_ret ((de_list 2 rg).go fun z H4 k4 ⟨e, rl⟩ => by
      subst e
      exact qq g H4 (kH.trans k4) hg0 rl))
def rPlayed (ds : List Da) (d : Da) : Prop := ∃ (r q : Rule) (ws : List Int), RR2 r q ∧ OkW r q (A0 r q) ws ∧ ws.length ≤ 90 ∧ ds = [dRule r, dRule q, .tuple (dI ws)] ∧ d = .tuple (dI (play r q (A0 r q) 0 ws))
theorem c_played (B : Bt mg) (F : DefAt K mg "played" sPlayed ["one", "other", "walk"]) (cW : Cal P w K mg base 9 "need_walk" ["one", "other", "walk"] (spWalk K)) (cP : Cal P w K mg base 2 "first_pair" ["one", "other"] (pS K rFirstPair)) (cN : Cal P w K mg base 1 "seen_in" ["mine", "its"] (spSeen K)) (cS : Cal P w K mg base 2 "step" ["rule", "state", "thing"] (pS K rStep)) : Cal P w K mg base 10 "played" ["one", "other", "walk"] (pT K rPlayed) := by
  refine .mkW F scPlayed (fun vs H Q E h => pT_len (m := 3) (fun ds d ⟨_, _, _, _, _, _, e, _⟩ => by rw [e]; rfl) h) fun f0 cdv A outer s H vs Q E hr hsp => ?_
  obtain ⟨ht, ds, d, rs, ⟨r, q, ws, hq, hw, hl, rfl, rfl⟩, qq⟩ := hsp
  obtain ⟨v1, v2, v3, rfl, r1, r2, r3⟩ := rs.c3
  refine b_cons (s_expr (w_call cW hr (DA.go (da_cons (dd_var 0 r1) (da_cons (dd_var 1 r2) (da_cons (dd_var 2 r3) da_nil))) fun us H2 k2 rs => ?_)))
  obtain ⟨u1, u2, u3, rfl, q1, q2, q3⟩ := rs.c3
  refine ⟨u1, u2, u3, r, q, ws, rfl, hq, hw, by omega, q1, q2, q3, k2.tabs ht, fun l H3 k3 _ => ?_⟩
  have k03 := k2.trans k3
  refine b_cons (s_two (n := 3) (m := 4) (dd_call cP (hr.mono (by decide)) (da_cons (dd_var 0 (k03.r r1)) (da_cons (dd_var 1 (k03.r r2)) da_nil)) ⟨r, q, hq.a, hq.b, rfl, rfl⟩) (fun x1 x2 H4 k4 p1 p2 => ?_) (pg_tup rfl (pgs_cons (pg_name (i := 3) scPlayed.nd rfl (.inl rfl)) (pgs_cons (pg_name (i := 4) scPlayed.nd rfl (.inl rfl)) pgs_nil))))
  refine b_cons (s_par 5 6 ((dl_lst (da_nil) (by simp)).go fun u H5 k5 ⟨g, e, hg0, ys0, hy0, ss0⟩ => dd_int.go fun x3 H6 k6 p3 => ?_) scPlayed.nd)
  subst e
  cases ss0
  have k04 := k03.trans k4
  have k06 := (k04.trans k5).trans k6
  have g0 : H g = none := k04.fresh hg0
  refine b_cons (s_for (M := [g]) (ds := dI ws) (fun i σ' H' => ∃ (y1 y2 y3 : V) (o7 o8 o9 : Option V) (B2 : Sta × Sta) (used : Int) (acc : List Int), σ' = [some v1, some v2, some v3, some y1, some y2, some (.ref g), some y3, o7, o8, o9] ∧ Rp K H' y1 (dSta B2.1) ∧ Rp K H' y2 (dSta B2.2) ∧ Rp K H' y3 (.int used) ∧ RL K H' g (dI acc) ∧
      PairOk r q B2 ∧ Below B2 used ∧ 0 ≤ used ∧ used + ((ws.length - i : Nat) : Int) ≤ 99 ∧ OkW r q (nam B2) (ws.drop i) ∧ play r q (A0 r q) 0 ws = acc ++ play r q B2 used (ws.drop i) ∧ acc.length = i)
    (src_tup (dd_var 2 (k06.r r3))) (pg_name (i := 7) scPlayed.nd rfl (.inl rfl)) (fun H7 k7 => ⟨x1, x2, x3, none, none, none, A0 r q, 0, [], rfl, ((k5.trans k6).trans k7).r p1, ((k5.trans k6).trans k7).r p2, k7.r p3, ⟨[], (k6.trans k7).l hy0, .nil⟩, first_arr hq, first_below, Int.le_refl _, by omega, by rw [first_nam]; exact hw, rfl, rfl⟩) (fun i d v σ' H8 H9 hd k8 hP k9 rv => ?_) fun σ' H8 k8 hP => ?_)
  · obtain ⟨y1, y2, y3, o7, o8, o9, B2, used, acc, rfl, s1, s2, s3, rg, po, be, hu, hl2, hok, hpl, al⟩ := hP
    obtain ⟨n, hn, rfl, hi, hd2⟩ := dI_get hd
    rw [hd2] at hok hpl
    have PS := play_step (w := ws.drop (i + 1)) hq.a hq.b po be hu (by rw [List.length_drop]; omega) hok
    obtain ⟨t99, po2, be2, hl3, hok2, n0, nm⟩ := PS
    have l1 : B2.1.1.length ≤ 4 := by rw [po.a.len]; exact hq.a.p4
    have l2 : B2.2.1.length ≤ 4 := by rw [po.b.len]; exact hq.b.p4
    have k19 : Kp [g] H H9 := (k06.to.trans k8).trans k9.to
    refine b_cons (s_set 8 (w_call cN (hr.mono (by decide)) (DA.go (da_cons (dd_var 3 (k9.r s1)) (da_cons (dd_var 4 (k9.r s2)) da_nil)) fun us H10 k10 rs => ?_)) scPlayed.nd)
    obtain ⟨z1, z2, rfl, w1, w2⟩ := rs.c2
    refine ⟨z1, z2, B2.1, B2.2, rfl, l1, l2, w1, w2, fun lk H11 k11 hlk rk => ?_⟩
    have kk : known (B2.1.1 ++ B2.2.1) = kn B2 := rfl
    rw [kk] at rk
    have k911 := k10.trans k11
    refine b_cons (s_set 9 ((de_if (R := fun v H2 => Rp K H2 v (.int (thingOf B2 used n))) (dt_lt (dd_var 7 (k911.r rv)) (dd_lenL (de_list 8 rk) B.len)) (fun h => ?_) fun h => ?_).go fun x4 H12 k12 p4 => ?_) scPlayed.nd)
    · have h := of_decide_eq_true h
      rw [dI_len] at h
      have hlt : n.toNat < (kn B2).length := by omega
      refine DD.as ?_ (dd_ixL (n := n.toNat) (d := .int ((kn B2).getD n.toNat 0)) (de_list 8 rk) (DD.as (by rw [Int.toNat_of_nonneg n0]) (dd_var 7 (k911.r rv))) ?_)
      · unfold thingOf
        rw [if_pos (show n < many B2 from h)]
      · rw [List.getElem?_map, List.getD, List.getElem?_eq_getElem hlt]
        rfl
    · have h := of_decide_eq_false h
      rw [dI_len] at h
      refine DD.as ?_ (dd_var 6 ((k9.trans k911).r s3))
      unfold thingOf
      rw [if_neg (show ¬ n < many B2 from h)]
    have k912 := k911.trans k12
    refine b_cons (s_set 6 ((dd_max2 (dd_var 6 ((k9.trans k912).r s3)) (dd_add (dd_var 9 p4) dd_int) B.max).go fun x5 H13 k13 p5 => ?_) scPlayed.nd)
    have k913 := k912.trans k13
    obtain ⟨xs, hxs, rsx⟩ := (k9.trans k913).rl rg
    have xl := rsx.len
    rw [dI_len] at xl
    refine b_cons (s_append (de_var 5) hxs (by omega) fun H14 k14 => (dd_var 9 ((k13.trans k14).r p4)).go fun x6 H15 k15 p6 => ?_)
    have hx15 := (k14.trans k15).l hxs
    have kw : Kp [g] H15 (upd H15 g (.lst (xs ++ [x6]))) := Kp.wr hx15 trivial List.mem_cons_self
    refine ⟨hx15, ?_⟩
    have k9w : Kp [g] H9 (upd H15 g (.lst (xs ++ [x6]))) := (k913.trans (k14.trans k15)).to.trans kw
    have p4w := kw.r (((k13.trans k14).trans k15).r p4)
    refine b_one (s_par 3 4 ((dd_ix (n := 2) (dd_call cS (hr.mono (by decide)) (da_cons (dd_var 0 ((k19.trans k9w).r r1)) (da_cons (dd_var 3 (k9w.r (k9.r s1))) (da_cons (dd_var 9 p4w) da_nil))) ⟨r, B2.1, thingOf B2 used n, hq.a, po.a, rfl, rfl⟩) dd_int rfl).go fun x7 H16 k16 p7 =>
      (dd_ix (n := 2) (dd_call cS (hr.mono (by decide)) (da_cons (dd_var 1 (k16.r ((k19.trans k9w).r r2))) (da_cons (dd_var 4 (k16.r (k9w.r (k9.r s2)))) (da_cons (dd_var 9 (k16.r p4w)) da_nil))) ⟨q, B2.2, thingOf B2 used n, hq.b, po.b, rfl, rfl⟩) dd_int rfl).go fun x8 H17 k17 p8 => ?_) scPlayed.nd)
    have kw17 := k16.trans k17
    refine ⟨k9w.trans kw17.to, x7, x8, x5, _, _, _, ask r q B2 (thingOf B2 used n), max used (thingOf B2 used n + 1), acc ++ [thingOf B2 used n], rfl, k17.r p7, p8, kw17.r (kw.r ((k14.trans k15).r p5)), ⟨_, kw17.l upd_same, ?_⟩, po2, be2, by omega, by rw [List.length_drop] at hl3; exact hl3, hok2, ?_, by rw [List.length_append]; simp [al]⟩
    · show RpA K _ _ ((acc ++ [_]).map Da.int)
      rw [List.map_append]
      exact kw17.ra ((kw.ra ((k14.trans k15).ra rsx)).snoc (kw.r p6))
    · rw [hpl, List.append_assoc]
      rfl
  · obtain ⟨y1, y2, y3, o7, o8, o9, B2, used, acc, rfl, s1, s2, s3, rg, po, be, hu, hl2, hok, hpl, al⟩ := hP
    rw [dI_len, List.drop_length] at hpl
    have hpl : play r q (A0 r q) 0 ws = acc := by rw [hpl]; exact List.append_nil acc
    have kH : Kp [] H H8 := (Kp.refl H).close (k06.to.trans k8) g0
    exact b_one (s_ret ((dd_tupS (de_list 5 rg) B.tuple).go fun z H9 k9 rz => qq z H9 (kH.trans k9) (by rw [hpl]; exact rz)))
end
end G28
namespace G28
open PySem PySem.Spec PyProof.Rows L2
variable [Tb]
section
variable {X : Cx} {a b c e : Expr} {es : List Expr} {σ : L2.St} {H : Hp} {pos p px : Pos} {x y z : Str}
theorem s_par3 (n m l : Nat) {D : Ends} {py pz pt pt2 : Pos} {kt k2 : Nat} (h : wE X a σ H fun u H1 => wE X b σ H1 fun v H2 => wE X c σ H2 fun w H3 => D.nx (((σ.set n (some u)).set m (some v)).set l (some w)) H3) (hN : X.N.Nodup) (hi : X.N[n]? = some x := by rfl) (hj : X.N[m]? = some y := by rfl) (hl : X.N[l]? = some z := by rfl) (hij : n ≠ m := by decide) (hil : n ≠ l := by decide) (hjl : m ≠ l := by decide) (hc : X.calm = true := by rfl)
    (hx : X.env.scope.names.lookup x = some .local := by rfl) (hy : X.env.scope.names.lookup y = some .local := by rfl) (hz : X.env.scope.names.lookup z = some .local := by rfl) (hw : swappedStores [.Tuple [.Name x px, .Name y py, .Name z pz] kt pt] (.Tuple [a, b, c] k2 pt2) X.env = pure (some [x, y, z]) := by rfl)
    (hs : swapsWithSole [.Tuple [.Name x px, .Name y py, .Name z pz] kt pt] (.Tuple [a, b, c] k2 pt2) pos.line X.env = pure false := by rfl) (s1 : starEach [a, b, c] X.env = (false, eval a X.env) :: starEach [b, c] X.env := by rfl) (s2 : starEach [b, c] X.env = (false, eval b X.env) :: starEach [c] X.env := by rfl) (s3 : starEach [c] X.env = (false, eval c X.env) :: starEach [] X.env := by rfl) :
    wS X (.Assign [.Tuple [.Name x px, .Name y py, .Name z pz] kt pt] (.Tuple [a, b, c] k2 pt2) pos) D σ H :=
  wS_of (ps_par3 hc hN hi hj hl hij hil hjl hx hy hz wA_pa hw hs) (w_args (wE_mono h fun u H1 q => w_args (wE_mono q fun v H2 q => w_args (wE_mono q fun w H3 q => w_args0 ⟨u, v, w, rfl, q⟩) s3) s2) s1)
end
theorem hits_run (r : Rule) : ∀ (ts : List Int) (s : Sta), (hits r s ts).length = ts.length
  | [], _ => rfl
  | _ :: ts, s => congrArg (· + 1) (hits_run r ts _)
def gones (r : Rule) : Sta → List Int → List Da
  | _, [] => []
  | s, t :: ts => dOpt (G28.step r s t).2.1 :: gones r (nxt r s t) ts
theorem dI_get' {ws : List Int} {i : Nat} {d : Da} (h : (dI ws)[i]? = some d) : ∃ n, ws[i]? = some n ∧ d = .int n ∧ i < ws.length ∧ ws.drop i = n :: ws.drop (i + 1) := by
  rw [List.getElem?_map] at h
  cases z : ws[i]? with
  | none => rw [z] at h; cases h
  | some n =>
    rw [z] at h
    have hi := (List.getElem?_eq_some_iff.mp z).1
    have gi : ws[i] = n := by
      rw [List.getElem?_eq_getElem hi] at z
      exact Option.some.inj z
    exact ⟨n, rfl, (Option.some.inj h).symm, hi, by rw [← gi, ← List.drop_eq_getElem_cons hi]⟩
section
variable {P : Program} {w : World} {K : PySem.W.Frag} {mg : Str → Option Value} {base : Heap}
/-! ### is_requests, need_requests -/
structure Req (ts : List Int) : Prop where
  len : ts.length ≤ 60
  th : Things ts
def rIsReq (ds : List Da) (d : Da) : Prop := ∃ ts : List Int, Req ts ∧ ds = [.tuple (dI ts)] ∧ d = .bool true
theorem c_isRequests (B : Bt mg) (F : DefAt K mg "is_requests" sIsRequests ["thing"]) (cT : Cal P w K mg base 2 "is_thing" ["thing"] (pS K rIsThing)) : Cal P w K mg base 3 "is_requests" ["thing"] (pS K rIsReq) := by
  refine .mkP F scIsRequests (fun ds d ⟨_, _, e, _⟩ => by rw [e]; rfl) fun f cdv A outer s H vs E ds d hr rs hR => ?_
  obtain ⟨ts, ht, rfl, rfl⟩ := hR
  obtain ⟨v1, rfl, r1⟩ := rs.c1
  have h60 := ht.len
  refine b_cons (s_ifF (dt_no ?_ (dt_or (dt_not (dt_val (dd_isi (dd_var 0 r1) (fun _ _ r => tup_ty r) (k := true) (by decide +kernel) B.isi B.tuple boot_tuple))) fun _ => dt_gt (dd_len (dd_var 0 r1) B.len) (dd_glob B.reqs))) fun H1 k1 => b_nil (b_one (s_retD k1 ?_)))
  · rw [dI_len, decide_eq_false (show ¬ (60 : Int) < (ts.length : Int) by omega)]
    rfl
  · refine dd_allT (ds := dI ts) (dl_map (own := [("one", 1)]) (n := 1) (fun _ => .bool true) (src_tup (dd_var 0 (k1.r r1))) scIsRequests.nd (blkOk_by (own := [("one", 1)]) (N := nIsRequests) (sc := defScope sIsRequests) (by decide +kernel))
      (fun _ _ _ _ _ => pg_name (i := 1) scIsRequests.nd rfl (.inl rfl)) (fun d v H2 hd k2 r s0 H0 C cl fp => ?_) (by rw [dI_len]; omega)) B.all
    obtain ⟨i, hi, rfl⟩ := List.mem_map.mp hd
    exact dd_call cT hr (da_cons (dd_var 1 r) da_nil) ⟨i, ht.th i hi, rfl, rfl⟩
def rNeedReq (ds : List Da) (d : Da) : Prop := ∃ ts : List Int, Req ts ∧ ds = [.tuple (dI ts)] ∧ d = .none
theorem c_needRequests (F : DefAt K mg "need_requests" sNeedRequests ["requests"]) (cR : Cal P w K mg base 3 "is_requests" ["thing"] (pS K rIsReq)) : Cal P w K mg base 4 "need_requests" ["requests"] (pS K rNeedReq) := by
  refine .mkP F scNeedRequests (fun ds d ⟨_, _, e, _⟩ => by rw [e]; rfl) fun f cdv A outer s H vs E ds d hr rs hR => ?_
  obtain ⟨ts, ht, rfl, rfl⟩ := hR
  obtain ⟨v1, rfl, r1⟩ := rs.c1
  exact b_one (s_ifF (Dt.as (by rfl) (dt_not (dt_val (dd_call cR hr (da_cons (dd_var 0 r1) da_nil) ⟨ts, ht, rfl, rfl⟩)))) fun H1 k1 => b_nil ⟨k1, .non⟩)
/-! ### run_of, checked_run, behind, hits -/
def dRun (r : Rule) (ts : List Int) : Da := .tuple [dSta (run r (first r) ts), .tuple ((hits r (first r) ts).map Da.bool), .tuple (gones r (first r) ts)]
def rRun (ds : List Da) (d : Da) : Prop := ∃ (r : Rule) (ts : List Int), RuleOk r ∧ Req ts ∧ ds = [dRule r, .tuple (dI ts)] ∧ d = dRun r ts
theorem c_runOf (B : Bt mg) (F : DefAt K mg "run_of" sRunOf ["rule", "requests"]) (cF : Cal P w K mg base 1 "first_state" ["rule"] (pS K rFirstState)) (cS : Cal P w K mg base 2 "step" ["rule", "state", "thing"] (pS K rStep)) : Cal P w K mg base 3 "run_of" ["rule", "requests"] (pS K rRun) := by
  refine .mkP F scRunOf (fun ds d ⟨_, _, _, _, e, _⟩ => by rw [e]; rfl) fun f cdv A outer s H vs E ds d hr rs hR => ?_
  obtain ⟨r, ts, hr0, ht, rfl, rfl⟩ := hR
  obtain ⟨v1, v2, rfl, r1, r2⟩ := rs.c2
  have h60 := ht.len
  refine b_cons (s_par3 2 3 4 ((dd_call cF (hr.mono (by decide)) (da_cons (dd_var 0 r1) da_nil) ⟨r, hr0, rfl, rfl⟩).go fun u1 H1 k1 q1 => (dl_lst (da_nil) (by simp)).go fun u2 H2 k2 ⟨g1, e1, hg1, ys1, hy1, ss1⟩ => (dl_lst (da_nil) (by simp)).go fun u3 H3 k3 ⟨g2, e2, hg2, ys2, hy2, ss2⟩ => ?_) scRunOf.nd)
  subst e1 e2
  cases ss1
  cases ss2
  have k12 := k1.trans k2
  have k13 := k12.trans k3
  have z1 : H g1 = none := k1.fresh hg1
  have z2 : H g2 = none := k12.fresh hg2
  have gg : g2 ≠ g1 := fun z => by rw [z, hy1] at hg2; cases hg2
  refine b_cons (s_for (M := [g1, g2]) (ds := dI ts) (fun i σ' H' => ∃ (y2 : V) (o5 o6 o7 : Option V) (S : Sta) (hs : List Bool) (gs : List Da), σ' = [some v1, some v2, some y2, some (.ref g1), some (.ref g2), o5, o6, o7] ∧ Rp K H' y2 (dSta S) ∧ RL K H' g1 (hs.map Da.bool) ∧ RL K H' g2 gs ∧ StaOk r S ∧
      run r (first r) ts = run r S (ts.drop i) ∧ hits r (first r) ts = hs ++ hits r S (ts.drop i) ∧ gones r (first r) ts = gs ++ gones r S (ts.drop i) ∧ hs.length = i ∧ gs.length = i)
    (src_tup (dd_var 1 (k13.r r2))) (pg_name (i := 5) scRunOf.nd rfl (.inl rfl)) (fun H4 k4 => ⟨u1, none, none, none, first r, [], [], rfl, ((k2.trans k3).trans k4).r q1, ⟨[], (k3.trans k4).l hy1, .nil⟩, ⟨[], k4.l hy2, .nil⟩, first_ok hr0, rfl, rfl, rfl, rfl, rfl⟩) (fun i d v σ' H8 H9 hd k8 hP k9 rv => ?_) fun σ' H8 k8 hP => ?_)
  · obtain ⟨y2, o5, o6, o7, S, hs, gs, rfl, s2, l1, l2, hS, e1, e2, e3, n1, n2⟩ := hP
    obtain ⟨t, hn, rfl, hi, hd2⟩ := dI_get' hd
    rw [hd2] at e1 e2 e3
    have t99 := ht.th t (List.mem_of_getElem? hn)
    have k19 : Kp [g1, g2] H H9 := (k13.to.trans k8).trans k9.to
    refine b_cons (s_three (n := 6) (m := 7) (l := 2) (dd_call cS (hr.mono (by decide)) (da_cons (dd_var 0 (k19.r r1)) (da_cons (dd_var 2 (k9.r s2)) (da_cons (dd_var 5 rv) da_nil))) ⟨r, S, t, hr0, hS, rfl, rfl⟩) (fun x1 x2 x3 H10 k10 p1 p2 p3 => ?_) (pg_tup rfl (pgs_cons (pg_name (i := 6) scRunOf.nd rfl (.inl rfl)) (pgs_cons (pg_name (i := 7) scRunOf.nd rfl (.inl rfl)) (pgs_cons (pg_name (i := 2) scRunOf.nd rfl (.inl rfl)) pgs_nil)))))
    have k910 := k9.trans k10
    obtain ⟨xs, hxs, rsx⟩ := k910.rl l1
    have xl := rsx.len
    rw [List.length_map] at xl
    refine b_cons (s_append (de_var 3) hxs (by omega) fun H11 k11 => (dd_var 6 (k11.r p1)).go fun x4 H12 k12' p4 => ?_)
    have hx12 := (k11.trans k12').l hxs
    have kw : Kp [g1] H12 (upd H12 g1 (.lst (xs ++ [x4]))) := Kp.wr hx12 trivial List.mem_cons_self
    refine ⟨hx12, ?_⟩
    have k1012 : Kp [g1] H10 (upd H12 g1 (.lst (xs ++ [x4]))) := (k11.trans k12').to.trans kw
    obtain ⟨ys, hys, rsy⟩ := k1012.rl (k910.rl l2) (by simpa using gg)
    have yl := rsy.len
    refine b_one (s_append (de_var 4) hys (by omega) fun H13 k13' => (dd_var 7 ((k1012.trans k13'.to).r p2)).go fun x5 H14 k14 p5 => ?_)
    have hy14 := (k13'.trans k14).l hys
    have kw2 : Kp [g2] H14 (upd H14 g2 (.lst (ys ++ [x5]))) := Kp.wr hy14 trivial List.mem_cons_self
    have kA : Kp [g1, g2] (upd H12 g1 (.lst (xs ++ [x4]))) (upd H14 g2 (.lst (ys ++ [x5]))) := (k13'.trans k14).to.trans (kw2.mono fun b hb => by rw [List.mem_singleton.mp hb]; simp)
    have kB : Kp [g1, g2] H10 (upd H14 g2 (.lst (ys ++ [x5]))) := (k1012.mono fun b hb => by rw [List.mem_singleton.mp hb]; simp).trans kA
    refine ⟨hy14, k10.to.trans kB, x3, _, _, _, nxt r S t, hs ++ [hit r S t], gs ++ [dOpt (G28.step r S t).2.1], rfl, kB.r p3, ⟨xs ++ [x4], ?_, ?_⟩, ⟨_, upd_same, ?_⟩, nxt_ok hr0 hS t99, e1, ?_, ?_, by rw [List.length_append]; simp [n1], by rw [List.length_append]; simp [n2]⟩
    · rw [upd_ne (Ne.symm gg)]
      exact (k13'.trans k14).l upd_same
    · rw [List.map_append]
      exact kA.ra ((kw.ra ((k11.trans k12').ra rsx)).snoc (kw.r p4))
    · exact (kw2.ra ((k13'.trans k14).ra rsy)).snoc (kw2.r p5)
    · rw [e2, List.append_assoc]
      rfl
    · rw [e3, List.append_assoc]
      rfl
  · obtain ⟨y2, o5, o6, o7, S, hs, gs, rfl, s2, l1, l2, hS, e1, e2, e3, n1, n2⟩ := hP
    rw [dI_len, List.drop_length] at e1 e2 e3
    have e2 : hits r (first r) ts = hs := by rw [e2]; exact List.append_nil _
    have e3 : gones r (first r) ts = gs := by rw [e3]; exact List.append_nil _
    have kH : Kp [] H H8 := (Kp.refl H).close ((Kp.refl H).close ((k13.to.trans k8).mono fun b hb => by simp at hb ⊢; rcases hb with h | h <;> simp [h]) z1) z2
    refine b_one (s_retD kH ?_)
    unfold dRun
    rw [e1, e2, e3]
    exact dd_tp (da_cons (dd_var 2 s2) (da_cons (dd_tupS (de_list 3 l1) B.tuple) (da_cons (dd_tupS (de_list 4 l2) B.tuple) da_nil)))
theorem c_checkedRun (F : DefAt K mg "checked_run" sCheckedRun ["rule", "requests"]) (cN : Cal P w K mg base 7 "need_rule" ["rule"] (pS K rNeedRule)) (cQ : Cal P w K mg base 4 "need_requests" ["requests"] (pS K rNeedReq)) (cR : Cal P w K mg base 3 "run_of" ["rule", "requests"] (pS K rRun)) : Cal P w K mg base 8 "checked_run" ["rule", "requests"] (pS K rRun) := by
  refine .mkP F scCheckedRun (fun ds d ⟨_, _, _, _, e, _⟩ => by rw [e]; rfl) fun f cdv A outer s H vs E ds d hr rs hR => ?_
  obtain ⟨r, ts, hr0, ht, rfl, rfl⟩ := hR
  obtain ⟨v1, v2, rfl, r1, r2⟩ := rs.c2
  refine b_cons (s_expr ((dd_call cN hr (da_cons (dd_var 0 r1) da_nil) ⟨r, hr0, rfl, rfl⟩).go fun _ H1 k1 _ => ?_))
  refine b_cons (s_expr ((dd_call cQ (hr.mono (by decide)) (da_cons (dd_var 1 (k1.r r2)) da_nil) ⟨ts, ht, rfl, rfl⟩).go fun _ H2 k2 _ => ?_))
  exact b_one (s_retD (k1.trans k2) (dd_call cR (hr.mono (by decide)) (da_cons (dd_var 0 ((k1.trans k2).r r1)) (da_cons (dd_var 1 ((k1.trans k2).r r2)) da_nil)) ⟨r, ts, hr0, ht, rfl, rfl⟩))
def rBehind (ds : List Da) (d : Da) : Prop := ∃ (r : Rule) (ts : List Int), RuleOk r ∧ Req ts ∧ ds = [dRule r, .tuple (dI ts)] ∧ d = dSta (run r (first r) ts)
def rHits (ds : List Da) (d : Da) : Prop := ∃ (r : Rule) (ts : List Int), RuleOk r ∧ Req ts ∧ ds = [dRule r, .tuple (dI ts)] ∧ d = .tuple ((hits r (first r) ts).map Da.bool)
theorem c_behind (F : DefAt K mg "behind" sBehind ["rule", "requests"]) (cR : Cal P w K mg base 8 "checked_run" ["rule", "requests"] (pS K rRun)) : Cal P w K mg base 9 "behind" ["rule", "requests"] (pS K rBehind) := by
  refine .mkP F scBehind (fun ds d ⟨_, _, _, _, e, _⟩ => by rw [e]; rfl) fun f cdv A outer s H vs E ds d hr rs hR => ?_
  obtain ⟨r, ts, hr0, ht, rfl, rfl⟩ := hR
  obtain ⟨v1, v2, rfl, r1, r2⟩ := rs.c2
  exact b_one (s_retD (Kp.refl H) (dd_ix (n := 0) (dd_call cR hr (da_cons (dd_var 0 r1) (da_cons (dd_var 1 r2) da_nil)) ⟨r, ts, hr0, ht, rfl, rfl⟩) dd_int rfl))
theorem c_hits (F : DefAt K mg "hits" sHits ["rule", "requests"]) (cR : Cal P w K mg base 8 "checked_run" ["rule", "requests"] (pS K rRun)) : Cal P w K mg base 9 "hits" ["rule", "requests"] (pS K rHits) := by
  refine .mkP F scHits (fun ds d ⟨_, _, _, _, e, _⟩ => by rw [e]; rfl) fun f cdv A outer s H vs E ds d hr rs hR => ?_
  obtain ⟨r, ts, hr0, ht, rfl, rfl⟩ := hR
  obtain ⟨v1, v2, rfl, r1, r2⟩ := rs.c2
  exact b_one (s_retD (Kp.refl H) (dd_ix (n := 1) (dd_call cR hr (da_cons (dd_var 0 r1) (da_cons (dd_var 1 r2) da_nil)) ⟨r, ts, hr0, ht, rfl, rfl⟩) dd_int rfl))
end
end G28
namespace G28
open PySem PySem.Spec PyProof.Rows L2
variable [Tb]
section
variable {X : Cx} {tg a b c e elt : Expr} {es : List Expr} {σ : L2.St} {H : Hp} {pos pos2 p px : Pos} {x y : Str} {Q : VK}
/-! ### loops and comprehensions of a drawn length -/
theorem s_forD {D : Ends} {body : List Stmt} (k0 : Nat) (Pv : Nat → Nat → L2.St → Hp → Prop) (h : wE X a σ H fun v H1 => ∃ n : Nat, v = .int (n : Int) ∧ n ≤ 100000 ∧ Pv n 0 σ H1) (hg : PG X tg (gName k0))
    (hs : ∀ n i σ' H3, i < n → Pv n i σ' H3 → wB X body { D with nx := Pv n (i + 1), ct := Pv n (i + 1), bk := D.nx } (σ'.set k0 (some (.int (i : Int)))) H3) (hd : ∀ n σ' H3, Pv n n σ' H3 → D.nx σ' H3) (hm : X.mg "range" = none) (hgr : Gl X "range" := by rfl)
    (he : starEach [a] X.env = (false, eval a X.env) :: starEach [] X.env := by rfl) (he2 : starEach [a] X.env = [(false, eval a X.env)] := by rfl) (hp : PassesOwn (model X.prog X.w) X.A X.env X.xe := by exact PassesOwn.never) (hc : X.calm = true := by rfl) (hf : ∀ x, foldedSetIterable (.Call (.Name "range" p) [a] [] pos) X.env x = pure x := by intro _; rfl) : wS X (.For tg (.Call (.Name "range" p) [a] [] pos) body [] pos2) D σ H :=
  wS_of (ps_for hp hc wI_pi hg wB_ps hf) (wI_of (pi_range1 hgr hm (pa_cons wE_pe pa_nil he) he2) <| wE_mono h fun v H1 ⟨n, e, hn, h0⟩ => ⟨(n : Int), by rw [e], by omega, by omega,
    for_it (walk_range (lo := 0) (n := n)) (Pv n) h0 (fun _ _ _ _ _ => trivial) (fun i x σ' H3 H4 hi z y => by
      obtain ⟨rfl, rfl⟩ := y
      have := hs n i σ' H4 hi z
      show wB X body _ (σ'.set k0 (some (V.int (0 + (i : Int))))) H4
      rw [Int.zero_add]
      exact this) (hd n)⟩)
theorem w_compD {scope : Scope} {own : List (Str × Nat)} (k0 : Nat) (Pv : Addr → Nat → Nat → List V → Hp → Prop) (h : wE X a σ H fun v H1 => ∃ n : Nat, v = .int (n : Int) ∧ n ≤ 1000 ∧ ∀ D, H1 D = none → Pv D n 0 [] (upd H1 D (.lst []))) (hN : X.N.Nodup) (ok : BlkOk X.N X.env.scope scope own)
    (hg : ∀ (s : Shared) (H : Hp) (C : Addr) (cl : List (Str × Addr)) (fp : List Addr), PG (X.blk s H scope (compEnvC scope cl C X.env) fp) (.Name x px) (gName k0))
    (el : ∀ D n i xs H1, i < n → xs.length = i → H1 D = some (.lst xs) → Pv D n i xs H1 → ∀ (s : Shared) (H0 : Hp) (C : Addr) (cl : List (Str × Addr)) (fp : List Addr), wE (X.blk s H0 scope (compEnvC scope cl C X.env) fp) elt ((wipe σ (own.map (·.2))).set k0 (some (.int (i : Int)))) H1 fun y H2 => H2 D = some (.lst xs) ∧ Pv D n (i + 1) (xs ++ [y]) (upd H2 D (.lst (xs ++ [y]))))
    (hd : ∀ D n xs H1, xs.length = n → H1 D = some (.lst xs) → Pv D n n xs H1 → Q (.ref D) H1) (hm : X.mg "range" = none) (hgr : Gl X "range" := by rfl) (he : starEach [a] X.env = (false, eval a X.env) :: starEach [] X.env := by rfl) (he2 : starEach [a] X.env = [(false, eval a X.env)] := by rfl)
    (hw : ∀ v, wipe ((wipe σ (own.map (·.2))).set k0 (some v)) (own.map (·.2)) = wipe σ (own.map (·.2)) := by intro _; rfl) (hc : X.calm = true := by rfl) (hs : ∀ x, foldedSetIterable (.Call (.Name "range" p) [a] [] pos) X.env x = pure x := by intro _; rfl) : wE X (.ListComp elt [⟨.Name x px, .Call (.Name "range" p) [a] [] pos, [], 0⟩] scope pos2) σ H Q :=
  wE_of (pe_lc hc hN (pi_range1 hgr hm (pa_cons wE_pe pa_nil he) he2) ok hg (fun _ _ _ _ _ => pts_nil) (te := uE X scope elt) (fun s H0 C cl fp => ⟨fun pins s' σ' H' Q I h => h s H0 C cl fp pins s' I⟩) hs) <| by
    refine wE_mono h fun v H1 ⟨n, e, hn, h0⟩ => ⟨(n : Int), by rw [e], by omega, by omega, fun D hD => ?_⟩
    refine lc_it (walk_range (lo := 0) (n := n)) (fun i H3 => ∃ xs, H3 D = some (.lst xs) ∧ xs.length = i ∧ Pv D n i xs H3) ⟨[], upd_same, rfl, h0 D hD⟩ (fun _ _ _ _ => trivial) (fun i x H3 H4 hi z y => ?_) fun H3 ⟨xs, hx, hl, z⟩ => hd D n xs H3 hl hx z
    obtain ⟨rfl, rfl⟩ := y
    obtain ⟨xs, hx, hl, z⟩ := z
    refine ⟨hw _, ?_⟩
    change uE X scope elt _ _ _
    intro s0 H0 C cl fp
    have := el D n i xs H4 hi hl hx z s0 H0 C cl fp
    rw [← Int.zero_add (i : Int)] at this
    exact wE_mono this fun y H5 ⟨q1, q2⟩ => ⟨xs, q1, Nat.lt_of_le_of_lt (show xs.length ≤ 100000 by omega) (by decide), xs ++ [y], upd_same, by rw [List.length_append, hl]; rfl, q2⟩
end
section
variable {P : Program} {w : World} {K : PySem.W.Frag} {mg : Str → Option Value} {base : Heap}
/-! ### _law_walk -/
def preWalk (ds : List Da) : Prop := ∃ r q : Rule, RR2 r q ∧ ds = [dRule r, dRule q, .int 15]
def gWalk (ds : List Da) (d : Da) : Prop := ∀ r q : Rule, ds = [dRule r, dRule q, .int 15] → ∃ ws : List Int, OkW r q (A0 r q) ws ∧ ws.length ≤ 15 ∧ d = .tuple (dI ws)
theorem map_inj {α β : Type} {f : α → β} (h : ∀ x y, f x = f y → x = y) : ∀ {l k : List α}, l.map f = k.map f → l = k
  | [], [], _ => rfl
  | [], _ :: _, e => by cases e
  | _ :: _, [], e => by cases e
  | x :: l, y :: k, e => by
    rw [h x y (List.cons.inj e).1, map_inj h (List.cons.inj e).2]
theorem dMv_inj {l k : List Mv} (h : l.map dMv = k.map dMv) : l = k := by
  have inj : ∀ a b : Mv, dMv a = dMv b → a = b := fun a b e => by
    obtain ⟨a1, a2⟩ := a
    obtain ⟨b1, b2⟩ := b
    have h1 := Da.tuple.inj e
    have h2 := (List.cons.inj h1).1
    have h3 := Da.int.inj (List.cons.inj (List.cons.inj h1).2).1
    have h4 := Da.tuple.inj h2
    have h5 : a1 = b1 := by
      have e1 : (a1.map Int.ofNat).map Da.int = (b1.map Int.ofNat).map Da.int := h4
      rw [List.map_map, List.map_map] at e1
      exact map_inj (fun x y z => Int.ofNat.inj (Da.int.inj z)) e1
    have h6 : a2 = b2 := Int.ofNat.inj h3
    rw [h5, h6]
  exact map_inj (fun x y z => inj x y z) h
theorem dRule_inj {r q : Rule} (h : dRule r = dRule q) : r = q := by
  obtain ⟨p1, l1⟩ := r
  obtain ⟨p2, l2⟩ := q
  have h1 := Da.tuple.inj h
  have e1 : p1 = p2 := Int.ofNat.inj (Da.int.inj (List.cons.inj h1).1)
  have e2 := Da.tuple.inj (List.cons.inj (List.cons.inj h1).2).1
  have inj : ∀ a b : LRow, dRow a = dRow b → a = b := fun a b e => by
    obtain ⟨a1, a2, a3⟩ := a
    obtain ⟨b1, b2, b3⟩ := b
    have g := Da.tuple.inj e
    have g1 := dMv_inj (Da.tuple.inj (List.cons.inj g).1)
    have g2 : a2 = b2 := Int.ofNat.inj (Da.int.inj (List.cons.inj (List.cons.inj g).2).1)
    have g3 := dMv_inj (Da.tuple.inj (List.cons.inj (List.cons.inj (List.cons.inj g).2).2).1)
    have g1' : a1 = b1 := g1
    have g3' : a3 = b3 := g3
    rw [g1', g2, g3']
  have e3 : l1 = l2 := map_inj (fun x y z => inj x y z) e2
  rw [e1, e3]
end
end G28
namespace G28
open PySem PySem.Spec PyProof.Rows L2
variable [Tb]
section
variable {P : Program} {w : World} {K : PySem.W.Frag} {mg : Str → Option Value} {base : Heap}
theorem c_lwalk (B : Bt mg) (F : DefAt K mg "_law_walk" sLwWalk ["_law_pen_here", "_law_one", "_law_other", "_law_most"]) (cD : CDraw P w K mg base) (cT : Cal P w K mg base 2 "_law_met" ["_law_one", "_law_other"] (pS K rFirstPair)) (cY : Cal P w K mg base 1 "_law_many" ["_law_pair"] (pS K rHowMany)) (cM : Cal P w K mg base 2 "_law_moved" ["_law_one", "_law_other", "_law_pair", "_law_number"] (pS K rMovedBy)) :
    Cal P w K mg base 3 "_law_walk" ["_law_pen_here", "_law_one", "_law_other", "_law_most"] (pP K 20 preWalk gWalk) := by
  refine .mkW F scLwWalk (fun vs H Q E h => pP_len (m := 3) (fun ds ⟨_, _, _, e⟩ => by rw [e]; rfl) h) fun f cdv A outer s H vs Q E hr hsp => ?_
  obtain ⟨p, b, vs', ds, rfl, hp, hb, rs, ⟨r, q, hq, rfl⟩, qq⟩ := hsp
  obtain ⟨v1, v2, v3, rfl, r1, r2, r3⟩ := rs.c3
  refine b_cons (s_par 4 5 ((dd_call cT hr (da_cons (dd_var 1 r1) (da_cons (dd_var 2 r2) da_nil)) ⟨r, q, hq.a, hq.b, rfl, rfl⟩).go fun u1 H1 k1 q1 => (dd_tp da_nil).go fun u2 H2 k2 q2 => ?_) scLwWalk.nd)
  have k12 := k1.trans k2
  refine b_cons (s_forD 6 (fun n i σ' H' => ∃ (y4 y5 : V) (o6 o7 : Option V) (ws : List Int), σ' = [some (.ref p), some v1, some v2, some v3, some y4, some y5, o6, o7] ∧ n ≤ 15 ∧ Kp [p] H H' ∧ Pen H' p (b + 1 + i) ∧ Rp K H' y4 (dPair (endW r q (A0 r q) ws)) ∧ Rp K H' y5 (.tuple (dI ws)) ∧ OkW r q (A0 r q) ws ∧ ws.length = i)
    (w_draw 0 cD (hr.mono (by decide)) (m := 16) (hp.up k12) (by omega) (DD.as (by rfl) (dd_add (dd_var 3 (k12.r r3)) dd_int)) (by decide) (by decide) fun n H3 hn k3 pn3 => ⟨n, rfl, by omega, u1, u2, none, none, [], rfl, by omega, k12.to.trans k3, pn3, (k2.to.trans k3).r q1, k3.r q2, trivial, rfl⟩) (pg_name (i := 6) scLwWalk.nd rfl (.inl rfl)) (fun n i σ' H3 hi hP => ?_) (fun n σ' H3 hP => ?_) B.range)
  · obtain ⟨y4, y5, o6, o7, ws, rfl, hn, kH, pn, s4, s5, hw, wl⟩ := hP
    have hA : Arr r q (endW r q (A0 r q) ws) := endW_arr hq ws _ (first_Arr hq) hw
    have h8 : 0 ≤ G28.many (endW r q (A0 r q) ws) ∧ G28.many (endW r q (A0 r q) ws) ≤ 8 := hA.many hq
    refine b_cons (s_set 7 (w_draw 0 cD (hr.mono (by decide)) (m := (G28.many (endW r q (A0 r q) ws)).toNat + 1) pn (by omega) (DD.as (show Da.int (G28.many (endW r q (A0 r q) ws) + 1) = _ by rw [show G28.many (endW r q (A0 r q) ws) + 1 = (((G28.many (endW r q (A0 r q) ws)).toNat + 1 : Nat) : Int) by omega]) (dd_add (dd_call cY (hr.mono (by decide)) (da_cons (dd_var 4 s4) da_nil) ⟨r, q, _, hq, hA, rfl, rfl⟩) dd_int)) (by omega) (by omega) fun j H4 hj k4 pn4 => ?_) scLwWalk.nd)
    have j99 : (0 : Int) ≤ (j : Int) ∧ (j : Int) ≤ 99 := by omega
    refine b_one (s_par 4 5 ((dd_ix (n := 2) (dd_call cM hr (da_cons (dd_var 1 ((kH.trans k4).r r1)) (da_cons (dd_var 2 ((kH.trans k4).r r2)) (da_cons (dd_var 4 (k4.r s4)) (da_cons (dd_var 7 (.int (j : Int))) da_nil)))) ⟨r, q, _, (j : Int), hq, hA.p, j99, rfl, rfl⟩) dd_int rfl).go fun x1 H5 k5 p1 =>
      (dd_cat (dd_var 5 ((k4.trans k5.to).r s5)) (dd_tp (da_cons (dd_var 7 (.int (j : Int))) da_nil)) (by rw [dI_len]; show ws.length + 1 ≤ _; omega)).go fun x2 H6 k6 p2 => ?_) scLwWalk.nd)
    refine ⟨x1, x2, _, _, ws ++ [(j : Int)], rfl, hn, (kH.trans k4).trans (k5.trans k6).to, (pn4.up (k5.trans k6)).le (by omega), ?_, ?_, ?_, by rw [List.length_append, wl]; rfl⟩
    · rw [endW_snoc]
      exact k6.r p1
    · have e : dI (ws ++ [(j : Int)]) = dI ws ++ [Da.int (j : Int)] := List.map_append
      rw [e]
      exact p2
    · exact (okW_app r q ws [(j : Int)] _).mpr ⟨hw, j99.1, by omega, trivial⟩
  · obtain ⟨y4, y5, o6, o7, ws, rfl, hn, kH, pn, s4, s5, hw, wl⟩ := hP
    refine b_one (s_ret ((dd_var 5 s5).go fun z H4 k4 rz => qq _ z H4 (fun r' q' e => ?_) (kH.trans k4.to) ((pn.up k4).le (by omega)) rz))
    have e1 := dRule_inj (List.cons.inj e).1
    have e2 := dRule_inj (List.cons.inj (List.cons.inj e).2).1
    subst e1 e2
    exact ⟨ws, hw, by omega, rfl⟩
end
end G28
namespace G28
open PySem PySem.Spec PyProof.Rows L2
variable [Tb]
section
variable {P : Program} {w : World} {K : PySem.W.Frag} {mg : Str → Option Value} {base : Heap}
/-! ### _law_pick, _law_wishes -/
def spPick (K : PySem.W.Frag) : Sp := fun vs H Q _ => ∃ (p l : Addr) (b : Nat) (ns : List Int), vs = [.ref p, .ref l] ∧ Pen H p b ∧ b ≤ 999999 ∧ l ≠ p ∧ H l = some (.lst (ns.map V.int)) ∧ 1 ≤ ns.length ∧ ns.length ≤ 1000 ∧ ∀ (x : Int) (H' : Hp), x ∈ ns → Kp [p] H H' → Pen H' p (b + 1) → Q (.int x) H'
theorem c_pick (B : Bt mg) (F : DefAt K mg "_law_pick" sLwPick ["_law_pen_here", "_law_things"]) (cD : CDraw P w K mg base) : Cal P w K mg base 2 "_law_pick" ["_law_pen_here", "_law_things"] (spPick K) := by
  refine .mkW F scLwPick (fun vs H Q E ⟨_, _, _, _, e, _⟩ => by rw [e]; rfl) fun f cdv A outer s H vs Q E hr hsp => ?_
  obtain ⟨p, l, b, ns, rfl, hp, hb, lp, hl, n1, n2, qq⟩ := hsp
  have rl : RL K H l (dI ns) := ⟨_, hl, RpA.of_ints ns⟩
  refine b_one (s_ret (wE_of (pe_ix ix_list wE_pe wE_pe (by intro _ _; rfl)) ((de_list 1 rl).go fun x1 H1 k1 ⟨e1, rl1⟩ => w_draw 0 cD hr (m := ns.length) (hp.up k1) (by omega) (DD.as (by rw [dI_len]) (dd_lenL (de_list 1 rl1) B.len)) n1 n2 fun j H2 hj k2 pn2 => ?_)))
  subst e1
  have h2 := k2.l (k1.l hl) (by simpa using lp)
  refine ⟨l, _, (j : Int), .int ns[j], rfl, rfl, .of h2, atI_nat ?_, qq _ H2 (List.getElem_mem hj) (k1.to.trans k2) pn2⟩
  rw [List.getElem?_map, List.getElem?_eq_getElem hj]
  rfl
def preWish (ds : List Da) : Prop := ds = [.int 12, .int 6]
def gWish (ds : List Da) (d : Da) : Prop := ∃ ts : List Int, Req ts ∧ ts.length ≤ 12 ∧ d = .tuple (dI ts)
abbrev names0 : List Int := [0, 1, 2, 3, 4, 5, 6, 7, 8, 9, 50, 98, 99]
theorem cut_take (xs : List V) (n : Nat) : cutV xs none (some (n : Int)) = xs.take n := by
  have e1 : HT.sIx xs.length xs.length (some (n : Int)) = min n xs.length := HT.sIx_nat _ _ _
  have e0 : HT.sIx xs.length 0 none = 0 := HT.sIx_none _ _
  unfold cutV
  rw [e0, e1, Nat.sub_zero, List.drop_zero]
  by_cases h : n ≤ xs.length
  · rw [Nat.min_eq_left h]
  · rw [Nat.min_eq_right (by omega), List.take_of_length_le (Nat.le_refl _), List.take_of_length_le (by omega)]
end
end G28
namespace G28
open PySem PySem.Spec PyProof.Rows L2
variable [Tb]
section
variable {P : Program} {w : World} {K : PySem.W.Frag} {mg : Str → Option Value} {base : Heap}
def consts : List Expr → Option (List Int)
  | [] => some []
  | .Constant (.int i) _ _ :: es => (consts es).map (i :: ·)
  | _ => none
theorem da_consts {X : Cx} {σ : L2.St} {H : Hp} : ∀ (es : List Expr) (ns : List Int), consts es = some ns → DAs X es σ H (dI ns)
  | [], ns, h => by
    cases h
    exact da_nil
  | e :: es, ns, h => by
    unfold consts at h
    split at h
    · rename_i h2
      cases h2
    · rename_i i _ _ es' h2
      cases h2
      cases q : consts es with
      | none => rw [q] at h; cases h
      | some ms =>
        rw [q] at h
        cases h
        exact da_cons dd_int (da_consts es ms q)
    · cases h
theorem dl_consts {X : Cx} {σ : L2.St} {H : Hp} {es : List Expr} {pos : Pos} (ns : List Int) (h : consts es = some ns) (hl : ns.length ≤ 1000) : DL X (.List es pos) σ H (dI ns) := dl_lst (da_consts es ns h) (by rw [dI_len]; omega)
theorem w_consts {X : Cx} {σ : L2.St} {H : Hp} {es : List Expr} {pos : Pos} {Q : VK} (ns : List Int) (h : consts es = some ns) (hl : ns.length ≤ 1000) (q : ∀ v H2, Kp [] H H2 → (∃ p, v = .ref p ∧ H p = none ∧ RL X.K H2 p (dI ns)) → Q v H2) : wE X (.List es pos) σ H Q := (dl_consts ns h hl).go q
def constsE : Expr → Option (List Int)
  | .List es _ => consts es
  | _ => none
theorem w_constsE {X : Cx} {σ : L2.St} {H : Hp} {L : Expr} {Q : VK} (ns : List Int) (h : constsE L = some ns) (hl : ns.length ≤ 1000) (q : ∀ v H2, Kp [] H H2 → (∃ p, v = .ref p ∧ H p = none ∧ RL X.K H2 p (dI ns)) → Q v H2) : wE X L σ H Q := by
  cases L with
  | List es pos => exact w_consts ns h hl q
  | _ => cases h
theorem c_wishes (B : Bt mg) (F : DefAt K mg "_law_wishes" sLwWishes ["_law_pen_here", "_law_most", "_law_many_here"]) (cD : CDraw P w K mg base) (cX : Cal P w K mg base 2 "_law_mixed" ["_law_pen_here", "_law_things"] (spMixed K)) (cP : Cal P w K mg base 2 "_law_pick" ["_law_pen_here", "_law_things"] (spPick K)) : Cal P w K mg base 3 "_law_wishes" ["_law_pen_here", "_law_most", "_law_many_here"] (pP K 40 preWish gWish) := by
  refine .mkW F scLwWishes (fun vs H Q E h => pP_len (m := 2) (fun ds e => by rw [e]; rfl) h) fun f cdv A outer s H vs Q E hr hsp => ?_
  obtain ⟨p, b, vs', ds, rfl, hp, hb, rs, rfl, qq⟩ := hsp
  obtain ⟨v1, v2, rfl, r1, r2⟩ := rs.c2
  refine b_cons (s_set 3 (wE_of (pe_slice sl_list wE_pe po_none (po_some wE_pe)) (w_call cX hr (w_args ((de_var 0).go fun a1 H1 k1 e1 => w_args ?_)))) scLwWishes.nd)
  generalize hL : Expr.List _ _ = L
  have hC : constsE L = some names0 := by
    rw [← hL]
    kernel_rfl
  clear hL
  refine w_constsE names0 hC (by decide) ?_
  intro a2 H2 k2 hh
  refine w_args0 ?_
  obtain ⟨l, e2, hl0, xs, hx, rs⟩ := hh
  have ex := rs.ints
  subst ex
  have k12 := k1.trans k2
  refine ⟨p, l, b, names0, by rw [e1, e2], hp.up k12, pen_ne hp (k1.fresh hl0), hx, by decide, by omega, fun g ms H3 k3 pn3 hg0 rl pm => ?_⟩
  have kA : Kp [p] H H3 := k12.to.trans k3
  refine w_add dd_int fun H4 k4 => w_draw 0 cD (hr.mono (by decide)) (m := 6) (pn3.up k4) (by omega) (dd_var 2 (k4.r (kA.r r2))) (by decide) (by decide) fun j H5 hj k5 pn5 => ⟨_, rfl, (((1 + j : Nat) : Int)), by rw [show (1 : Int) + (j : Int) = ((1 + j : Nat) : Int) by omega], ?_⟩
  have gp : g ≠ p := pen_ne (hp.up k12) hg0
  obtain ⟨ys, hy, ss⟩ := rl
  have ey := ss.ints
  subst ey
  have hy5 := k5.l (k4.l hy) (by simpa using gp)
  refine ⟨g, _, rfl, .of hy5, fun c hc => ?_⟩
  rw [cut_take, ← List.map_take]
  have kB : Kp [p] H H5 := kA.trans (k4.to.trans k5)
  have cp : c ≠ p := pen_ne pn5 hc
  have kC : Kp [p] H (upd H5 c (.lst ((ms.take (1 + j)).map V.int))) := kB.trans (Kp.new hc)
  have pn6 : Pen (upd H5 c (.lst ((ms.take (1 + j)).map V.int))) p (b + 14) := (pn5.up (Kp.new (M := []) hc)).le (by omega)
  have hc6 : (upd H5 c (.lst ((ms.take (1 + j)).map V.int))) c = some (.lst ((ms.take (1 + j)).map V.int)) := upd_same
  generalize upd H5 c (.lst ((ms.take (1 + j)).map V.int)) = H6 at kC pn6 hc6
  have ml := pm.length_eq
  have m13 : ms.length = 13 := ml
  have ln : (ms.take (1 + j)).length = 1 + j := by rw [List.length_take]; omega
  have c0 : H c = none := kB.fresh hc
  refine b_one (s_ret (w_tupL (w_compD (own := [("_law_turn", 4)]) 4 (fun D n i xs H' => n ≤ 12 ∧ D ≠ p ∧ D ≠ c ∧ Kp [p, D] H H' ∧ H D = none ∧ Pen H' p (b + 15 + i) ∧ H' c = some (.lst ((ms.take (1 + j)).map V.int)) ∧ ∃ ts : List Int, xs = ts.map V.int ∧ ∀ t ∈ ts, t ∈ ms) (w_draw 0 cD (hr.mono (by decide)) (m := 13) pn6 (by omega) (DD.as (by rfl) (dd_add (dd_var 1 (kC.r r1)) dd_int)) (by decide) (by decide) fun n H7 hn k7 pn7 => ⟨n, rfl, by omega, fun D hD => ?_⟩) scLwWishes.nd (blkOk_by (own := [("_law_turn", 4)]) (N := nLwWishes) (sc := defScope sLwWishes) (by decide +kernel)) (fun _ _ _ _ _ => pg_name (i := 4) scLwWishes.nd rfl (.inl rfl)) (fun D n i xs H7 hi hl hD hP s0 H0 C cl fp => ?_) (fun D n xs H7 hl hD hP => ?_) B.range) B.tuple))
  · have k07 := kC.trans k7
    have hc7 := k7.l hc6 (by simpa using cp)
    have Dc : D ≠ c := fun z => by rw [z, hc7] at hD; cases hD
    refine ⟨by omega, pen_ne pn7 hD, Dc, (k07.mono fun b hb => by rw [List.mem_singleton.mp hb]; simp).trans (Kp.new hD), k07.fresh hD, (pn7.up (Kp.new (M := []) hD)).le (by omega), ?_, [], rfl, by simp⟩
    rw [upd_ne (Ne.symm Dc)]
    exact hc7
  · obtain ⟨hn, Dp, Dc, k7, D0, pn7, hc7, ts, rfl, hts⟩ := hP
    refine w_call cP hr (w_args ((de_var 0).go fun a1 H8 k8 e8 => w_args ((de_var 3).go fun a2 H9 k9 e9 => w_args0 ⟨p, c, _, ms.take (1 + j), by rw [e8, e9], (pn7.up k8).up k9, by omega, cp, (k8.trans k9).l hc7, by omega, by omega, fun x H10 hx k10 pn10 => ?_⟩)))
    have k710 : Kp [p] H7 H10 := (k8.trans k9).to.trans k10
    have hD10 := k710.l hD (by simpa using Dp)
    refine ⟨hD10, hn, Dp, Dc, (k7.trans (k710.mono fun b hb => by rw [List.mem_singleton.mp hb]; simp)).trans (Kp.wr hD10 trivial (by simp)), D0, ?_, ?_, ts ++ [x], by rw [List.map_append] <;> rfl, fun t ht => ?_⟩
    · obtain ⟨x', y', n', h', r'⟩ := pn10
      exact ⟨x', y', n', by rw [upd_ne (Ne.symm Dp)]; exact h', r'.1, r'.2.1, r'.2.2.1, by have := r'.2.2.2; omega⟩
    · rw [upd_ne (Ne.symm Dc)]
      exact k710.l hc7 (by simpa using cp)
    · rcases List.mem_append.mp ht with h | h
      · exact hts t h
      · rw [List.mem_singleton.mp h]
        exact List.mem_of_mem_take hx
  · obtain ⟨hn, Dp, Dc, k7, D0, pn7, hc7, ts, rfl, hts⟩ := hP
    rw [List.length_map] at hl
    refine ⟨D, dI ts, rfl, ⟨_, hD, RpA.of_ints ts⟩, fun u H8 k8 ru => qq _ u H8 ⟨ts, ⟨by omega, fun t ht => ?_⟩, by omega, rfl⟩ ?_ ((pn7.up k8).le (by omega)) ru⟩
    · have := pm.mem_iff.mp (hts t ht)
      have all : ∀ x ∈ names0, 0 ≤ x ∧ x ≤ 99 := by decide
      exact all t this
    · exact ((Kp.refl H).close ((k7.mono (M' := [D, p]) fun b hb => by simp at hb ⊢; rcases hb with h | h <;> simp [h])) D0).trans k8.to
end
end G28
namespace G28
open PySem PySem.Spec PyProof.Rows L2
variable [Tb]
theorem run_ok {r : Rule} (R : RuleOk r) : ∀ (ts : List Int) (s : Sta), StaOk r s → Things ts → StaOk r (run r s ts)
  | [], _, h, _ => h
  | t :: ts, s, h, ht => run_ok R ts (nxt r s t) (nxt_ok R h (ht t List.mem_cons_self)) fun u hu => ht u (List.mem_cons_of_mem _ hu)
theorem nums_at (r q : Rule) : ∀ (ts : List Int) (A : Sta × Sta) (i : Nat) (t : Int), ts[i]? = some t → (nums r q A ts)[i]? = some (num (kn (runP r q A (ts.take i))) t)
  | [], _, _, _, h => by simp at h
  | u :: ts, A, 0, t, h => by
    have : u = t := by simpa using h
    subst this
    rfl
  | u :: ts, A, i + 1, t, h => nums_at r q ts (ask r q A u) i t (by simpa using h)
theorem nums_len (r q : Rule) : ∀ (ts : List Int) (A : Sta × Sta), (nums r q A ts).length = ts.length
  | [], _ => rfl
  | _ :: ts, _ => congrArg (· + 1) (nums_len r q ts _)
theorem play_len (r q : Rule) : ∀ (ws : List Int) (A : Sta × Sta) (u : Int), (play r q A u ws).length = ws.length
  | [], _, _ => rfl
  | _ :: ws, _, _ => congrArg (· + 1) (play_len r q ws _ _)
theorem hitsW_at (r q : Rule) : ∀ (ws : List Int) (A : Sta × Sta) (i : Nat) (n : Int), ws[i]? = some n → (hitsW r q A ws)[i]? = some (hit r (endW r q A (ws.take i)).1 n, hit q (endW r q A (ws.take i)).2 n)
  | [], _, _, _, h => by simp at h
  | u :: ws, A, 0, n, h => by
    have : u = n := by simpa using h
    subst this
    rfl
  | u :: ws, A, i + 1, n, h => hitsW_at r q ws (G28.mv r q A u) i n (by simpa using h)
theorem pairs_at {ts : List Int} {i : Nat} {d : Da} (h : (pairs (dI ts))[i]? = some d) : ∃ t, ts[i]? = some t ∧ d = .tuple [.int (i : Int), .int t] ∧ i < ts.length := by
  unfold pairs at h
  rw [List.getElem?_mapIdx, List.getElem?_map] at h
  cases z : ts[i]? with
  | none => rw [z] at h; cases h
  | some t =>
    rw [z] at h
    exact ⟨t, rfl, (Option.some.inj h).symm, (List.getElem?_eq_some_iff.mp z).1⟩
theorem pairs_len (ds : List Da) : (pairs ds).length = ds.length := by simp [pairs]
theorem tk (ts : List Int) (i : Nat) : (dI ts).take i = dI (ts.take i) := List.map_take.symm
theorem take_one {α : Type} {l : List α} {i : Nat} {x : α} (h : l[i]? = some x) : l.take (i + 1) = l.take i ++ [x] := by rw [List.take_add_one, h] <;> rfl
theorem gTup2_mono {K : PySem.W.Frag} {m n k : Nat} (v : V) (σ : L2.St) (H : Hp) (Q Q' : L2.St → Hp → Prop) (h : gTup K k (gCons (gName m) (gCons (gName n) gNil)) v σ H Q) (mo : ∀ σ' H', Q σ' H' → Q' σ' H') : gTup K k (gCons (gName m) (gCons (gName n) gNil)) v σ H Q' := by
  obtain ⟨t, xs, e, hx, hl, x, r, e1, y, r2, e2, e3, q⟩ := h
  exact ⟨t, xs, e, hx, hl, x, r, e1, y, r2, e2, e3, mo _ _ q⟩
section
variable {P : Program} {w : World} {K : PySem.W.Frag} {mg : Str → Option Value} {base : Heap}
/-! ### _law_numbers -/
def spNums (K : PySem.W.Frag) : Sp := fun vs H Q _ => ∃ (v0 v1 v2 v3 : V) (r q : Rule) (ts : List Int), vs = [v0, v1, v2, v3] ∧ RR2 r q ∧ Req ts ∧ Rp K H v1 (dRule r) ∧ Rp K H v2 (dRule q) ∧ Rp K H v3 (.tuple (dI ts)) ∧ ∀ v H', Kp [] H H' → Rp K H' v (.tuple (dI (nums r q (A0 r q) ts))) → Q v H'
theorem c_numbers (B : Bt mg) (F : DefAt K mg "_law_numbers" sLwNumbers ["_law_pen_here", "_law_one", "_law_other", "_law_wishes_here"]) (cB : Cal P w K mg base 9 "behind" ["rule", "requests"] (pS K rBehind)) : Cal P w K mg base 10 "_law_numbers" ["_law_pen_here", "_law_one", "_law_other", "_law_wishes_here"] (spNums K) := by
  refine .mkW F scLwNumbers (fun vs H Q E ⟨_, _, _, _, _, _, _, e, _⟩ => by rw [e]; rfl) fun f cdv A outer s H vs Q E hr hsp => ?_
  obtain ⟨v0, v1, v2, v3, r, q, ts, rfl, hq, ht, r1, r2, r3, qq⟩ := hsp
  have h60 := ht.len
  refine b_cons (s_set 4 ((dd_tp da_nil).go fun u H1 k1 ru => ?_) scLwNumbers.nd)
  refine b_cons (s_for (M := []) (ds := pairs (dI ts)) (fun i σ' H' => ∃ (u4 : V) (o5 o6 o7 o8 : Option V), σ' = [some v0, some v1, some v2, some v3, some u4, o5, o6, o7, o8] ∧ Rp K H' u4 (.tuple (dI ((nums r q (A0 r q) ts).take i))))
    (src_enum (dd_var 3 (k1.r r3)) B.enum) (pg_tup rfl (pgs_cons (pg_name (i := 5) scLwNumbers.nd rfl (.inl rfl)) (pgs_cons (pg_name (i := 6) scLwNumbers.nd rfl (.inl rfl)) pgs_nil))) (fun H2 k2 => ⟨u, none, none, none, none, rfl, k2.r ru⟩) (fun i d x σ' H3 H4 hd k3 hP k4 rv => ?_) (fun σ' H3 k3 hP => ?_) (hgM := gTup2_mono))
  · obtain ⟨u4, o5, o6, o7, o8, rfl, s4⟩ := hP
    obtain ⟨t, hn, rfl, hi⟩ := pairs_at hd
    obtain ⟨a0, xs0, rfl, hx0, rs0⟩ := rv.t
    obtain ⟨x5, x6, rfl, q5, q6⟩ := rs0.c2
    have t99 := ht.th t (List.mem_of_getElem? hn)
    refine ⟨a0, _, rfl, hx0, rfl, _, _, rfl, _, _, rfl, rfl, ?_⟩
    show wB _ _ _ [some v0, some v1, some v2, some v3, some u4, some x5, some x6, o7, o8] H4
    have k14 : Kp [] H H4 := (k1.trans k3).trans k4
    refine b_cons (s_set 7 ((dl_lst (da_nil) (by simp)).go fun z H5 k5 ⟨g, e, hg0, ys0, hy0, ss0⟩ => ?_) scLwNumbers.nd)
    subst e
    cases ss0
    show wB _ _ _ [some v0, some v1, some v2, some v3, some u4, some x5, some x6, some (.ref g), o8] H5
    have k15 := k14.trans k5
    have rq : Req (ts.take i) := ⟨by rw [List.length_take]; omega, fun y hy => ht.th y (List.mem_of_mem_take hy)⟩
    have ra := run_ok hq.a (ts.take i) (first r) (first_ok hq.a) rq.th
    have rb := run_ok hq.b (ts.take i) (first q) (first_ok hq.b) rq.th
    have la : (run r (first r) (ts.take i)).1.length ≤ 4 := by rw [ra.len]; exact hq.a.p4
    have lb : (run q (first q) (ts.take i)).1.length ≤ 4 := by rw [rb.len]; exact hq.b.p4
    have ek : kn (runP r q (A0 r q) (ts.take i)) = known ((run r (first r) (ts.take i)).1 ++ (run q (first q) (ts.take i)).1) := by
      rw [runP_run]
      rfl
    have b1 : DD (cxOf CX0 P w K mg base nLwNumbers "_law_numbers" (defScope sLwNumbers) f cdv A outer s H E).nox (.Name "_law_wishes_here" ⟨1, 1, 1, 1⟩) [some v0, some v1, some v2, some v3, some u4, some x5, some x6, some (.ref g), o8] H5 (.tuple (dI ts)) := dd_var 3 (k15.r r3)
    have e1 : dI (run r (first r) (ts.take i)).1 ++ dI (run q (first q) (ts.take i)).1 = dI ((run r (first r) (ts.take i)).1 ++ (run q (first q) (ts.take i)).1) := List.map_append.symm
    refine b_cons (s_for (M := [g]) (ds := dI ((run r (first r) (ts.take i)).1 ++ (run q (first q) (ts.take i)).1)) (fun j σ' H' => (∃ o, σ' = [some v0, some v1, some v2, some v3, some u4, some x5, some x6, some (.ref g), o]) ∧ RL K H' g (dI ((((run r (first r) (ts.take i)).1 ++ (run q (first q) (ts.take i)).1).take j).foldl addK [])))
      (src_tup (DD.as (by rw [e1]) (dd_cat (dd_rt (dd_ix (n := 0) (dd_call cB hr (da_cons (dd_var 1 (k15.r r1)) (da_cons (DD.as (by rw [tk]) (dd_to (n := i) (dd_var 3 (k15.r r3)) (dd_var 5 (k5.r q5)))) da_nil)) ⟨r, ts.take i, hq.a, rq, rfl, rfl⟩) dd_int rfl)) (dd_rt (dd_ix (n := 0) (dd_call cB hr (da_cons (dd_var 2 (k15.r r2)) (da_cons (DD.as (by rw [tk]) (dd_to (n := i) (dd_var 3 (k15.r r3)) (dd_var 5 (k5.r q5)))) da_nil)) ⟨q, ts.take i, hq.b, rq, rfl, rfl⟩) dd_int rfl)) (by rw [dI_len, dI_len]; omega))))
      (pg_name (i := 8) scLwNumbers.nd rfl (.inl rfl)) (fun H6 k6 => ⟨⟨o8, rfl⟩, [], k6.l hy0, .nil⟩) (fun j d y σ' H6 H7 hd k6 hP k7 ry => ?_) fun σ' H6 k6 hP => ?_)
    · obtain ⟨⟨o, rfl⟩, rg⟩ := hP
      obtain ⟨z, hz, rfl, hj, _⟩ := dI_get' hd
      have step1 : (((run r (first r) (ts.take i)).1 ++ (run q (first q) (ts.take i)).1).take (j + 1)).foldl addK [] = addK ((((run r (first r) (ts.take i)).1 ++ (run q (first q) (ts.take i)).1).take j).foldl addK []) z := by
        rw [take_one hz, List.foldl_append]
        rfl
      have lt : ((((run r (first r) (ts.take i)).1 ++ (run q (first q) (ts.take i)).1).take j).foldl addK []).length ≤ 8 := by
        have := fold_len (((run r (first r) (ts.take i)).1 ++ (run q (first q) (ts.take i)).1).take j) []
        rw [List.length_nil, List.length_take, List.length_append] at this
        omega
      rw [step1]
      generalize (((run r (first r) (ts.take i)).1 ++ (run q (first q) (ts.take i)).1).take j).foldl addK [] = acc at rg lt
      have rg7 := k7.rl rg
      refine b_one (s_if (dt_and (dt_ne (dd_var 8 ry) (dd_neg dd_int)) fun _ => dt_niL (dd_var 8 ry) (de_list 7 rg7)) (fun hc H8 k8 => ?_) fun hc H8 k8 => b_nil ⟨k8.to, ⟨_, rfl⟩, ?_⟩)
      · have hn : ¬ (z = -1 ∨ z ∈ acc) := by
          intro e
          rcases e with e | e
          · rw [decide_eq_true e] at hc
            cases hc
          · rw [decide_eq_true e, Bool.not_true, Bool.and_false] at hc
            cases hc
        obtain ⟨xs, hxs, rs⟩ := k8.rl rg7
        have xl := rs.len
        rw [dI_len] at xl
        refine b_one (s_append (de_var 7) hxs (by omega) fun H9 k9 => (dd_var 8 ((k8.trans k9).r ry)).go fun y2 H10 k10 ry2 => ?_)
        have kw : Kp [g] H10 (upd H10 g (.lst (xs ++ [y2]))) := Kp.wr ((k9.trans k10).l hxs) trivial List.mem_cons_self
        refine ⟨(k9.trans k10).l hxs, (k8.trans (k9.trans k10)).to.trans kw, ⟨_, rfl⟩, ?_⟩
        unfold addK
        rw [if_neg hn]
        refine ⟨_, upd_same, ?_⟩
        show RpA K _ _ ((acc ++ [z]).map Da.int)
        rw [List.map_append]
        exact (kw.ra ((k9.trans k10).ra rs)).snoc (kw.r ry2)
      · have hn : z = -1 ∨ z ∈ acc := by
          by_cases e : z = -1
          · exact .inl e
          · by_cases e2 : z ∈ acc
            · exact .inr e2
            · rw [decide_eq_false e, decide_eq_false e2] at hc
              cases hc
        unfold addK
        rw [if_pos hn]
        exact k8.rl rg7
    · obtain ⟨⟨o, rfl⟩, rg⟩ := hP
      rw [dI_len, List.take_of_length_le (Nat.le_refl _)] at rg
      have rg' : RL K H6 g (dI (kn (runP r q (A0 r q) (ts.take i)))) := by
        rw [ek]
        exact rg
      generalize hk : kn (runP r q (A0 r q) (ts.take i)) = kk at rg'
      have kG : Kp [] H4 H6 := (Kp.refl H4).close (k5.to.trans k6) hg0
      have nn := nums_at r q ts (A0 r q) i t hn
      rw [hk] at nn
      have nl := nums_len r q ts (A0 r q)
      refine b_one (s_set 4 ((dd_cat (dd_var 4 (kG.r (k4.r s4))) (dd_tp (da_cons (de_if (R := fun v H2 => Rp K H2 v (.int (num kk t))) (dt_inL (dd_var 6 (kG.r q6)) (de_list 7 rg')) (fun h => ?_) fun h => ?_) da_nil)) ?_).go fun y3 H7 k7 ry3 => ?_) scLwNumbers.nd)
      · have h := of_decide_eq_true h
        refine DD.as ?_ (dd_indexL (de_list 7 rg') (dd_var 6 (kG.r q6)) h)
        unfold num
        rw [if_neg (show ¬ t = -1 by omega)]
      · have h := of_decide_eq_false h
        refine DD.as ?_ (dd_lenL (de_list 7 rg') B.len)
        unfold num
        rw [if_neg (show ¬ t = -1 by omega), idx_out h, dI_len]
      · rw [dI_len, List.length_take]
        show _ + 1 ≤ _
        omega
      · refine ⟨kG.trans k7, y3, _, _, _, _, rfl, ?_⟩
        rw [take_one nn]
        have e : dI ((nums r q (A0 r q) ts).take i ++ [num kk t]) = dI ((nums r q (A0 r q) ts).take i) ++ [Da.int (num kk t)] := List.map_append
        rw [e]
        exact ry3
  · obtain ⟨u4, o5, o6, o7, o8, rfl, s4⟩ := hP
    rw [pairs_len, dI_len, ← nums_len r q ts (A0 r q), List.take_length] at s4
    exact b_one (s_ret ((dd_var 4 s4).go fun z H4 k4 rz => qq z H4 ((k1.trans k3).trans k4) rz))
end
end G28
namespace G28
open PySem PySem.Spec PyProof.Rows L2
variable [Tb]
section
variable {X : Cx} {a b : Expr} {σ : L2.St} {H : Hp} {pos : Pos} {k : Bool}
theorem dd_isT {kk : Nat} {p2 : Pos} (ha : DD X a σ H (.bool k)) : DD X (.Compare a [.Is] [.Constant (.bool true) kk p2] pos) σ H (.bool k) :=
  .of (pe_cmpR op_isBl wE_pe wE_pe (nomark _)) (De.two ha (dd_bl (y := true)) fun x y H1 H2 H3 _ r1 k2 k3 r2 => ⟨k, true, r1.b, r2.b, k2.trans k3, by
    have e : decide (k = true) = k := by cases k <;> rfl
    rw [e]
    exact .bl k⟩)
end
section
variable {P : Program} {w : World} {K : PySem.W.Frag} {mg : Str → Option Value} {base : Heap}
def rRight (ds : List Da) (d : Da) : Prop := ∃ (r q : Rule) (ws : List Int), RR2 r q ∧ OkW r q (A0 r q) ws ∧ ws.length ≤ 15 ∧ ds = [dRule r, dRule q, .tuple (dI ws)] ∧ d = .bool true
theorem c_right (B : Bt mg) (F : DefAt K mg "_law_right" sLwRight ["_law_one", "_law_other", "_law_walk_here"]) (cPl : Cal P w K mg base 10 "played" ["one", "other", "walk"] (pT K rPlayed)) (cSt : Cal P w K mg base 9 "start" ["one", "other"] (pS K rFirstPair)) (cB : Cal P w K mg base 9 "behind" ["rule", "requests"] (pS K rBehind)) (cN : Cal P w K mg base 1 "_law_named" ["_law_pair"] (pS K rLNamed))
    (cW : Cal P w K mg base 10 "walked" ["one", "other", "walk"] (pT K rWalked)) (cH : Cal P w K mg base 9 "hits" ["rule", "requests"] (pS K rHits)) (cM : Cal P w K mg base 9 "moved" ["one", "other", "arrangement", "number"] (pS K rMoved)) (cA : Cal P w K mg base 9 "is_arrangement" ["one", "other", "thing"] (pS K rIsPair)) :
    Cal P w K mg base 11 "_law_right" ["_law_one", "_law_other", "_law_walk_here"] (pT K rRight) := by
  refine .mkW F scLwRight (fun vs H Q E h => pT_len (m := 3) (fun ds d ⟨_, _, _, _, _, _, e, _⟩ => by rw [e]; rfl) h) fun f0 cdv A outer s H vs Q E hr hsp => ?_
  obtain ⟨ht, ds, d, rs, ⟨r, q, ws, hq, hw, hl, rfl, rfl⟩, qq⟩ := hsp
  obtain ⟨v1, v2, v3, rfl, r1, r2, r3⟩ := rs.c3
  have PO := play_ok hq.a hq.b ws (A0 r q) 0 (first_arr hq) first_below (Int.le_refl 0) (by omega) (by rw [first_nam]; exact hw)
  have pl := play_len r q ws (A0 r q) 0
  have SM := sim hq.a hq.b (play r q (A0 r q) 0 ws) (A0 r q) (first_arr hq) PO.2
  rw [PO.1, first_nam] at SM
  obtain ⟨_, sE, sH1, sH2⟩ := SM
  rw [runP_run] at sE
  have st1 := run_ok hq.a (play r q (A0 r q) 0 ws) (first r) (first_ok hq.a) PO.2
  have st2 := run_ok hq.b (play r q (A0 r q) 0 ws) (first q) (first_ok hq.b) PO.2
  refine b_cons (s_par 3 4 ((dd_callT cPl hr ht (da_cons (dd_var 0 r1) (da_cons (dd_var 1 r2) (da_cons (dd_var 2 r3) da_nil))) ⟨r, q, ws, hq, hw, by omega, rfl, rfl⟩).go fun u3 H1 k1 q3 => (dd_call cSt (hr.mono (by decide)) (da_cons (dd_var 0 (k1.r r1)) (da_cons (dd_var 1 (k1.r r2)) da_nil)) ⟨r, q, hq.a, hq.b, rfl, rfl⟩).go fun u4 H2 k2 q4 => ?_) scLwRight.nd)
  generalize hts : play r q (A0 r q) 0 ws = ts at *
  have req : Req ts := ⟨by omega, PO.2⟩
  have k02 := k1.trans k2
  have q32 := k2.r q3
  show wB _ _ _ [some v1, some v2, some v3, some u3, some u4, none, none, none, none, none, none] H2
  refine b_cons (s_set 5 ((dd_tp (da_cons (dd_call cB (hr.mono (by decide)) (da_cons (dd_var 0 (k02.r r1)) (da_cons (dd_var 3 q32) da_nil)) ⟨r, ts, hq.a, req, rfl, rfl⟩) (da_cons (dd_call cB (hr.mono (by decide)) (da_cons (dd_var 1 (k02.r r2)) (da_cons (dd_var 3 q32) da_nil)) ⟨q, ts, hq.b, req, rfl, rfl⟩) da_nil))).go fun u5 H3 k3 q5 => ?_) scLwRight.nd)
  show wB _ _ _ [some v1, some v2, some v3, some u3, some u4, some u5, none, none, none, none, none] H3
  have k03 := k02.trans k3
  have l1 : (run r (first r) ts).1.length ≤ 4 := by rw [st1.len]; exact hq.a.p4
  have l2 : (run q (first q) ts).1.length ≤ 4 := by rw [st2.len]; exact hq.b.p4
  have eN : dPair (named (run r (first r) ts) (run q (first q) ts)) = dPair (endW r q (A0 r q) ws) := by rw [sE] <;> rfl
  refine b_cons (s_ifF (dt_no ?_ (dt_or (dt_differsD (d := dPair (endW r q (A0 r q) ws)) (DD.as eN (dd_call cN (hr.mono (by decide)) (da_cons (dd_var 5 q5) da_nil) ⟨run r (first r) ts, run q (first q) ts, l1, l2, rfl, rfl⟩)) (dd_callT cW (hr.mono (by decide)) (k03.tabs ht) (da_cons (dd_var 0 (k03.r r1)) (da_cons (dd_var 1 (k03.r r2)) (da_cons (dd_var 2 (k03.r r3)) da_nil))) ⟨r, q, ws, hq, hw, by omega, rfl, rfl⟩) hr.units (by rw [dPair_dp]; decide)) fun _ => dt_ne (dd_len (dd_var 3 (k3.r q32)) B.len) (dd_len (dd_var 2 (k03.r r3)) B.len))) fun H4 k4 => b_nil ?_)
  · rw [dI_len, dI_len, pl]
    simp
  have k04 := k03.trans k4
  have q34 := (k3.trans k4).r q32
  refine b_cons (s_par 6 7 ((dd_call cH (hr.mono (by decide)) (da_cons (dd_var 0 (k04.r r1)) (da_cons (dd_var 3 q34) da_nil)) ⟨r, ts, hq.a, req, rfl, rfl⟩).go fun u6 H5 k5 q6 => (dd_call cH (hr.mono (by decide)) (da_cons (dd_var 1 (k5.r (k04.r r2))) (da_cons (dd_var 3 (k5.r q34)) da_nil)) ⟨q, ts, hq.b, req, rfl, rfl⟩).go fun u7 H6 k6 q7 => ?_) scLwRight.nd)
  show wB _ _ _ [some v1, some v2, some v3, some u3, some u4, some u5, some u6, some u7, none, none, none] H6
  have k06 := k04.trans (k5.trans k6)
  have q66 := k6.r q6
  rw [← sH1] at q66
  rw [← sH2] at q7
  refine b_cons (s_for (M := []) (ds := pairs (dI ws)) (fun i σ' H' => ∃ (y4 : V) (o8 o9 o10 : Option V), σ' = [some v1, some v2, some v3, some u3, some y4, some u5, some u6, some u7, o8, o9, o10] ∧ Rp K H' y4 (dPair (endW r q (A0 r q) (ws.take i))))
    (src_enum (dd_var 2 (k06.r r3)) B.enum) (pg_tup rfl (pgs_cons (pg_name (i := 8) scLwRight.nd rfl (.inl rfl)) (pgs_cons (pg_name (i := 9) scLwRight.nd rfl (.inl rfl)) pgs_nil))) (fun H7 k7 => ⟨u4, none, none, none, rfl, ((((k3.trans k4).trans (k5.trans k6)).trans k7)).r q4⟩) (fun i d x σ' H7 H8 hd k7 hP k8 rv => ?_) (fun σ' H7 k7 hP => ?_) (hgM := gTup2_mono))
  · obtain ⟨y4, o8, o9, o10, rfl, s4⟩ := hP
    obtain ⟨n, hn, rfl, hi⟩ := pairs_at hd
    obtain ⟨a0, xs0, rfl, hx0, rs0⟩ := rv.t
    obtain ⟨x8, x9, rfl, q8, q9⟩ := rs0.c2
    refine ⟨a0, _, rfl, hx0, rfl, _, _, rfl, _, _, rfl, rfl, ?_⟩
    show wB _ _ _ [some v1, some v2, some v3, some u3, some y4, some u5, some u6, some u7, some x8, some x9, o10] H8
    have tk1 := take_one hn
    have gi : ws[i] = n := by
      rw [List.getElem?_eq_getElem hi] at hn
      exact Option.some.inj hn
    have e0 : ws.take i ++ n :: ws.drop (i + 1) = ws := by rw [← gi, ← List.drop_eq_getElem_cons hi, List.take_append_drop]
    have hw2 : OkW r q (A0 r q) (ws.take i ++ n :: ws.drop (i + 1)) := by
      rw [e0]
      exact hw
    rw [okW_app] at hw2
    obtain ⟨w1, w2, w3, w4⟩ := hw2
    have hA : Arr r q (endW r q (A0 r q) (ws.take i)) := endW_arr hq _ _ (first_Arr hq) w1
    have hw3 : OkW r q (A0 r q) (ws.take (i + 1)) := by
      rw [tk1, okW_app]
      exact ⟨w1, w2, w3, trivial⟩
    have k08 := (k06.trans k7).trans k8
    have s48 := k8.r s4
    have H68 := k7.trans k8
    have hh := hitsW_at r q ws (A0 r q) i n hn
    have h1i : (((hitsW r q (A0 r q) ws).map Prod.fst).map Da.bool)[i]? = some (.bool (hit r (endW r q (A0 r q) (ws.take i)).1 n)) := by
      rw [List.getElem?_map, List.getElem?_map, hh] <;> rfl
    have h2i : (((hitsW r q (A0 r q) ws).map Prod.snd).map Da.bool)[i]? = some (.bool (hit q (endW r q (A0 r q) (ws.take i)).2 n)) := by
      rw [List.getElem?_map, List.getElem?_map, hh] <;> rfl
    refine b_cons (s_set 10 ((dd_call cM (hr.mono (by decide)) (da_cons (dd_var 0 (k08.r r1)) (da_cons (dd_var 1 (k08.r r2)) (da_cons (dd_var 4 s48) (da_cons (dd_var 9 q9) da_nil)))) ⟨r, q, _, n, hq, hA, ⟨w2, w3⟩, rfl, rfl⟩).go fun x10 H9 k9 p10 => ?_) scLwRight.nd)
    show wB _ _ _ [some v1, some v2, some v3, some u3, some y4, some u5, some u6, some u7, some x8, some x9, some x10] H9
    have k09 := k08.trans k9
    have H69 := H68.trans k9
    have eE : dPair (G28.mv r q (endW r q (A0 r q) (ws.take i)) n) = dPair (endW r q (A0 r q) (ws.take (i + 1))) := by rw [tk1, endW_snoc]
    refine b_cons (s_ifF (Dt.as (by rfl) (dt_or (dt_differsD (d := .tuple [.bool (hit r (endW r q (A0 r q) (ws.take i)).1 n), .bool (hit q (endW r q (A0 r q) (ws.take i)).2 n)]) (DD.as (by rfl) (dd_to (n := 2) (dd_var 10 p10) dd_int)) (dd_tp (da_cons (dd_ix (n := i) (dd_var 6 (H69.r q66)) (dd_var 8 (k9.r q8)) h1i) (da_cons (dd_ix (n := i) (dd_var 7 (H69.r q7)) (dd_var 8 (k9.r q8)) h2i) da_nil))) hr.units (by show (1 : Nat) ≤ 64; decide)) fun _ =>
      dt_differsD (d := dPair (endW r q (A0 r q) (ws.take (i + 1)))) (DD.as eE (dd_ix (n := 2) (dd_var 10 p10) dd_int rfl)) (dd_callT cW (hr.mono (by decide)) (k09.tabs ht) (da_cons (dd_var 0 (k09.r r1)) (da_cons (dd_var 1 (k09.r r2)) (da_cons (DD.as (by rw [tk]) (dd_to (n := i + 1) (dd_var 2 (k09.r r3)) (DD.as (by rfl) (dd_add (dd_var 8 (k9.r q8)) dd_int)))) da_nil))) ⟨r, q, ws.take (i + 1), hq, hw3, by rw [List.length_take]; omega, rfl, rfl⟩) hr.units (by rw [dPair_dp]; decide))) fun H10 k10 => b_nil ?_)
    refine b_one (s_set 4 ((dd_ix (n := 2) (dd_var 10 (k10.r p10)) dd_int rfl).go fun y11 H11 k11 p11 => ⟨(k9.trans k10).trans k11, y11, _, _, _, rfl, ?_⟩) scLwRight.nd)
    rw [← eE]
    exact p11
  · obtain ⟨y4, o8, o9, o10, rfl, s4⟩ := hP
    rw [pairs_len, dI_len, List.take_length] at s4
    have hA : Arr r q (endW r q (A0 r q) ws) := endW_arr hq _ _ (first_Arr hq) hw
    have k07 := k06.trans k7
    exact b_one (s_ret ((dd_isT (dd_call cA (hr.mono (by decide)) (da_cons (dd_var 0 (k07.r r1)) (da_cons (dd_var 1 (k07.r r2)) (da_cons (dd_var 4 s4) da_nil))) ⟨r, q, _, hq, hA, rfl, rfl⟩)).go fun z H8 k8 rz => qq z H8 (k07.trans k8) rz))
end
end G28
namespace G28
open PySem PySem.Spec PyProof.Rows L2
variable [Tb]
section
variable {X : Cx} {a b c e : Expr} {es : List Expr} {σ : L2.St} {H : Hp} {pos p px : Pos} {Q : VK}
theorem wT_notE {k : Bool} {R : Bool → Hp → Prop} (h : wE X e σ H fun v H1 => v = .bl k ∧ R (!k) H1) (he : ∀ whole, isTrue e X.env whole = (do let v ← whole; standAt e.pos; holding [v] (truthy v)) := by intro _; rfl) : wT X (.UnaryOp .Not e pos) σ H R :=
  wT_of (pt_not wT_pt) (wT_of (pt_val wE_pe he) (wE_mono h fun v H1 ⟨e, q⟩ => ⟨k, e, q⟩))
theorem s_ifW {D : Ends} {s1 s2 : List Stmt} (h : wT X c σ H fun k H1 => if k = true then wB X s1 D σ H1 else wB X s2 D σ H1) : wS X (.If c s1 s2 pos) D σ H := wS_of (ps_if wT_pt wB_ps wB_ps) h
theorem s_try {D : Ends} {body : List Stmt} {h0 : ExceptHandler} {hs : List ExceptHandler} (hb : wB X body D σ H) (hn : ∀ e s, ¬ X.xe e s := by exact fun _ _ z => z) : wS X (.Try body (h0 :: hs) [] [] pos) D σ H :=
  wS_of (ps_try_never hn wB_ps wB_ps) (wB_mono hb ⟨fun _ _ z => b_nil z, fun _ _ z => z, fun _ _ z => z, fun _ _ z => z⟩)
end
section
variable {P : Program} {w : World} {K : PySem.W.Frag} {mg : Str → Option Value} {base : Heap}
def spLaw (K : PySem.W.Frag) : Sp := fun vs H Q _ => ∃ (a : Addr) (ns : List Int), vs = [.ref a] ∧ SqL K H a (ns.map V.int) ∧ TabOk H ∧ ∀ H', Q (.bl true) H'
abbrev spPen : Sp := fun vs H Q _ => ∃ i : Int, vs = [.int i] ∧ ∀ p H', Kp [] H H' → H p = none → Pen H' p 0 → Q (.ref p) H'
abbrev spCell (K : PySem.W.Frag) : Sp := fun vs H Q _ => ∃ (a : Addr) (ns : List Int) (k : Nat), vs = [.ref a, .int (k : Int)] ∧ SqL K H a (ns.map V.int) ∧ ∀ (i : Int) (H' : Hp), Kp [] H H' → Q (.int i) H'
theorem c_law (B : Bt mg) {f0 : Addr} {fd : FuncData} (F : Fun K "law" "law" sLaw f0 fd) (cPen : Cal P w K mg base 1 "_law_pen" ["_law_cell"] spPen) (cCell : Cal P w K mg base 1 "_law_cell_at" ["_law_script", "_law_k"] (spCell K)) (cTwo : Cal P w K mg base 6 "_law_two" ["_law_pen_here", "_law_most"] (pP K 4006 preMost gTwo))
    (cRight : Cal P w K mg base 11 "_law_right" ["_law_one", "_law_other", "_law_walk_here"] (pT K rRight)) (cWalk : Cal P w K mg base 3 "_law_walk" ["_law_pen_here", "_law_one", "_law_other", "_law_most"] (pP K 20 preWalk gWalk)) (cWish : Cal P w K mg base 3 "_law_wishes" ["_law_pen_here", "_law_most", "_law_many_here"] (pP K 40 preWish gWish))
    (cNums : Cal P w K mg base 10 "_law_numbers" ["_law_pen_here", "_law_one", "_law_other", "_law_wishes_here"] (spNums K)) (cB : Cal P w K mg base 9 "behind" ["rule", "requests"] (pS K rBehind)) (cW : Cal P w K mg base 10 "walked" ["one", "other", "walk"] (pT K rWalked)) (cN : Cal P w K mg base 1 "_law_named" ["_law_pair"] (pS K rLNamed))
    (cPl : Cal P w K mg base 10 "played" ["one", "other", "walk"] (pT K rPlayed)) (cH : Cal P w K mg base 9 "hits" ["rule", "requests"] (pS K rHits)) : FnOk P w K mg base CX0 12 f0 fd ["_law_script"] (spLaw K) := by
  refine okW F scLaw (fun vs H Q E ⟨_, _, e, _⟩ => by rw [e]; rfl) fun cdv A outer s H vs Q E hr hsp => ?_
  obtain ⟨a, ns, rfl, hS, ht, qq⟩ := hsp
  refine b_one (s_try ?_)
  have en : ∃ n : Nat, max (1 : Int) (min ((ns.map V.int).length : Int) 3) = (n : Int) ∧ n ≤ 3 := ⟨(max (1 : Int) (min ((ns.map V.int).length : Int) 3)).toNat, by omega, by omega⟩
  obtain ⟨n, en, n3⟩ := en
  refine b_cons (s_for (M := []) (ds := dI (upto n)) (fun i σ' H' => ∃ o1 o2 o3 o4 o5 o6 o7 o8 o9, σ' = [some (.ref a), o1, o2, o3, o4, o5, o6, o7, o8, o9])
    (src_range (DD.as (by rw [en]) (dd_max2 dd_int (dd_min2 (dd_lenS (de_seq 0 hS) B.len) dd_int B.min) B.max)) (by omega) B.range) (pg_name (i := 1) scLaw.nd rfl (.inl rfl)) (fun H1 k1 => ⟨_, _, _, _, _, _, _, _, _, rfl⟩) (fun i d v σ' H3 H4 hd k3 hP k4 rv => ?_) fun σ' H3 k3 hP => b_one (s_ret (dd_bl.go fun v H4 k4 rv => by rw [rv.b]; exact qq H4)))
  obtain ⟨o1, o2, o3, o4, o5, o6, o7, o8, o9, rfl⟩ := hP
  obtain ⟨rfl, hi⟩ := upto_at hd
  have k04 := k3.trans k4
  show wB _ _ _ [some (.ref a), some v, o2, o3, o4, o5, o6, o7, o8, o9] H4
  refine b_cons (s_set 2 (w_call cPen (hr.mono (by decide)) (w_args (w_call cCell (hr.mono (by decide)) (w_args ((de_seq 0 (k04.s hS)).go fun x1 H5 k5 ⟨e1, hS5⟩ => w_args ((dd_var 1 (k5.r rv)).go fun x2 H6 k6 p2 => w_args0 ?_)))))) scLaw.nd)
  refine ⟨a, ns, i, by rw [e1, p2.i], k6.s hS5, fun z H7 k7 => w_args0 ⟨z, rfl, fun p H8 k8 hp0 pn => ?_⟩⟩
  have k48 := (k5.trans k6).trans (k7.trans k8)
  have p4 : H4 p = none := ((k5.trans k6).trans k7).fresh hp0
  have k08 := k04.trans k48
  show wB _ _ _ [some (.ref a), some v, some (.ref p), o3, o4, o5, o6, o7, o8, o9] H8
  refine b_one (s_for (M := [p]) (ds := dI (upto 3)) (fun j σ' H' => (∃ o3 o4 o5 o6 o7 o8 o9, σ' = [some (.ref a), some v, some (.ref p), o3, o4, o5, o6, o7, o8, o9]) ∧ Pen H' p (5000 * j))
    (src_range (dd_int (i := ((3 : Nat) : Int))) (by decide) B.range) (pg_name (i := 3) scLaw.nd rfl (.inl rfl)) (fun H9 k9 => ⟨⟨_, _, _, _, _, _, _, rfl⟩, pn.up k9⟩) (fun j d v3 σ' H9 H10 hd k9 hP k10 rv3 => ?_) fun σ' H9 k9 hP => ?_)
  · obtain ⟨⟨o3, o4, o5, o6, o7, o8, o9, rfl⟩, pn9⟩ := hP
    obtain ⟨rfl, hj⟩ := upto_at hd
    have pn10 := pn9.up k10
    have kA : Kp [p] H H10 := (k08.to.trans k9).trans k10.to
    show wB _ _ _ [some (.ref a), some v, some (.ref p), some v3, o4, o5, o6, o7, o8, o9] H10
    refine b_cons (s_unpack (w_pen 2 cTwo (hr.mono (by decide)) pn10 (by omega) (da_cons dd_int da_nil) ⟨4, by decide, by decide, rfl⟩ fun d v4 H11 hg k11 pn11 r11 => ?_ : wE _ _ _ _ _) (pg_tup rfl (pgs_cons (pg_name (i := 4) scLaw.nd rfl (.inl rfl)) (pgs_cons (pg_name (i := 5) scLaw.nd rfl (.inl rfl)) pgs_nil))))
    obtain ⟨r, q, hr1, hq1, rfl⟩ := hg
    have hq : RR2 r q := ⟨hr1, hq1⟩
    obtain ⟨a0, xs0, rfl, hx0, rs0⟩ := r11.t
    obtain ⟨u4, u5, rfl, q4, q5⟩ := rs0.c2
    refine ⟨a0, _, rfl, hx0, rfl, _, _, rfl, _, _, rfl, rfl, ?_⟩
    show wB _ _ _ [some (.ref a), some v, some (.ref p), some v3, some u4, some u5, o6, o7, o8, o9] H11
    have kB : Kp [p] H H11 := kA.trans k11
    refine b_cons (s_ifW (wT_notE (k := true) (w_call cRight hr (w_args ((dd_var 4 q4).go fun x1 H12 k12 p1 => w_args ((dd_var 5 (k12.r q5)).go fun x2 H13 k13 p2 => w_args (w_pen 2 cWalk (hr.mono (by decide)) (pn11.up (k12.trans k13)) (by omega) (da_cons (dd_var 4 ((k12.trans k13).r q4)) (da_cons (dd_var 5 ((k12.trans k13).r q5)) (da_cons dd_int da_nil))) ⟨r, q, hq, rfl⟩ fun d x3 H14 hg k14 pn14 r14 => w_args0 ?_)))))))
    obtain ⟨ws, hw, hl, rfl⟩ := hg r q rfl
    have kC : Kp [p] H11 H14 := (k12.trans k13).to.trans k14
    refine ⟨(kB.trans kC).tabs ht, _, _, .cons ((k13.to.trans k14).r p1) (.cons (k14.r p2) (.cons r14 .nil)), ⟨r, q, ws, hq, hw, hl, rfl, rfl⟩, fun z H15 k15 rz => ⟨rz.b, ?_⟩⟩
    rw [if_neg (by decide)]
    refine b_nil ?_
    have kD := kC.trans k15.to
    have pn15 := pn14.up k15
    refine b_cons (s_set 6 (w_pen 2 cWish (hr.mono (by decide)) pn15 (by omega) (da_cons dd_int (da_cons dd_int da_nil)) rfl fun d x6 H16 hg k16 pn16 r16 => ?_) scLaw.nd)
    obtain ⟨ts, req, l12, rfl⟩ := hg
    have kE := kD.trans k16
    show wB _ _ _ [some (.ref a), some v, some (.ref p), some v3, some u4, some u5, some x6, o7, o8, o9] H16
    have q4e := kE.r q4
    have q5e := kE.r q5
    refine b_cons (s_set 7 (w_call cNums (hr.mono (by decide)) (w_args ((de_var 2).go fun y1 H17 k17 _ => w_args ((dd_var 4 (k17.r q4e)).go fun y2 H18 k18 p2 => w_args ((dd_var 5 ((k17.trans k18).r q5e)).go fun y3 H19 k19 p3 => w_args ((dd_var 6 (((k17.trans k18).trans k19).r r16)).go fun y4 H20 k20 p4 => w_args0 ?_)))))) scLaw.nd)
    refine ⟨y1, y2, y3, y4, r, q, ts, rfl, hq, req, (k19.trans k20).r p2, k20.r p3, p4, fun x7 H21 k21 r21 => ?_⟩
    have k1621 := ((k17.trans k18).trans (k19.trans k20)).trans k21
    show wB _ _ _ [some (.ref a), some v, some (.ref p), some v3, some u4, some u5, some x6, some x7, o8, o9] H21
    have q4f := k1621.r q4e
    have q5f := k1621.r q5e
    have q6f := k1621.r r16
    have SM := sim hq.a hq.b ts (A0 r q) (first_arr hq) req.th
    rw [first_nam, runP_run] at SM
    obtain ⟨sO, sE, sH1, sH2⟩ := SM
    have nl := nums_len r q ts (A0 r q)
    have PO := play_ok hq.a hq.b (nums r q (A0 r q) ts) (A0 r q) 0 (first_arr hq) first_below (Int.le_refl 0) (by omega) (by rw [first_nam]; exact sO)
    have pl := play_len r q (nums r q (A0 r q) ts) (A0 r q) 0
    have SM2 := sim hq.a hq.b (play r q (A0 r q) 0 (nums r q (A0 r q) ts)) (A0 r q) (first_arr hq) PO.2
    rw [PO.1] at SM2
    obtain ⟨_, _, tH1, tH2⟩ := SM2
    rw [first_nam] at tH1 tH2
    have g1 := tH1.symm.trans sH1
    have g2 := tH2.symm.trans sH2
    have st1 := run_ok hq.a ts (first r) (first_ok hq.a) req.th
    have st2 := run_ok hq.b ts (first q) (first_ok hq.b) req.th
    have l1 : (run r (first r) ts).1.length ≤ 4 := by rw [st1.len]; exact hq.a.p4
    have l2 : (run q (first q) ts).1.length ≤ 4 := by rw [st2.len]; exact hq.b.p4
    have eN : dPair (named (run r (first r) ts) (run q (first q) ts)) = dPair (endW r q (A0 r q) (nums r q (A0 r q) ts)) := by rw [sE] <;> rfl
    refine b_cons (s_set 8 ((dd_tp (da_cons (dd_call cB (hr.mono (by decide)) (da_cons (dd_var 4 q4f) (da_cons (dd_var 6 q6f) da_nil)) ⟨r, ts, hq.a, req, rfl, rfl⟩) (da_cons (dd_call cB (hr.mono (by decide)) (da_cons (dd_var 5 q5f) (da_cons (dd_var 6 q6f) da_nil)) ⟨q, ts, hq.b, req, rfl, rfl⟩) da_nil))).go fun x8 H22 k22 r22 => ?_) scLaw.nd)
    show wB _ _ _ [some (.ref a), some v, some (.ref p), some v3, some u4, some u5, some x6, some x7, some x8, o9] H22
    have kF : Kp [p] H H22 := ((kB.trans kE).trans k1621.to).trans k22.to
    refine b_cons (s_ifF (dt_differsD (d := dPair (endW r q (A0 r q) (nums r q (A0 r q) ts))) (dd_callT cW (hr.mono (by decide)) (kF.tabs ht) (da_cons (dd_var 4 (k22.r q4f)) (da_cons (dd_var 5 (k22.r q5f)) (da_cons (dd_var 7 (k22.r r21)) da_nil))) ⟨r, q, _, hq, sO, by omega, rfl, rfl⟩) (DD.as eN (dd_call cN (hr.mono (by decide)) (da_cons (dd_var 8 r22) da_nil) ⟨run r (first r) ts, run q (first q) ts, l1, l2, rfl, rfl⟩)) hr.units (by rw [dPair_dp]; decide)) fun H23 k23 => b_nil ?_)
    have k2123 := k22.trans k23
    refine b_cons (s_set 9 ((dd_callT cPl (hr.mono (by decide)) ((kF.trans k23.to).tabs ht) (da_cons (dd_var 4 (k2123.r q4f)) (da_cons (dd_var 5 (k2123.r q5f)) (da_cons (dd_var 7 (k2123.r r21)) da_nil))) ⟨r, q, _, hq, sO, by omega, rfl, rfl⟩).go fun x9 H24 k24 r24 => ?_) scLaw.nd)
    show wB _ _ _ [some (.ref a), some v, some (.ref p), some v3, some u4, some u5, some x6, some x7, some x8, some x9] H24
    have req2 : Req (play r q (A0 r q) 0 (nums r q (A0 r q) ts)) := ⟨by omega, PO.2⟩
    have k2124 := k2123.trans k24
    have hdp : ∀ bs : List Bool, (Da.tuple (bs.map Da.bool)).dp ≤ 64 := fun bs => by
      have : ∀ bs : List Bool, Da.dps (bs.map Da.bool) = 0 := fun bs => by
        induction bs with
        | nil => rfl
        | cons x l ih =>
          show max 0 (Da.dps (l.map Da.bool)) = 0
          rw [ih]
          rfl
      show Da.dps (bs.map Da.bool) + 1 ≤ 64
      rw [this]
      decide
    refine b_one (s_ifF (Dt.as (by rfl) (dt_or (dt_differsD (d := .tuple ((hits r (first r) ts).map Da.bool)) (DD.as (by rw [g1]) (dd_call cH (hr.mono (by decide)) (da_cons (dd_var 4 (k2124.r q4f)) (da_cons (dd_var 9 r24) da_nil)) ⟨r, _, hq.a, req2, rfl, rfl⟩)) (dd_call cH (hr.mono (by decide)) (da_cons (dd_var 4 (k2124.r q4f)) (da_cons (dd_var 6 (k2124.r q6f)) da_nil)) ⟨r, ts, hq.a, req, rfl, rfl⟩) hr.units (hdp _)) fun _ =>
      dt_differsD (d := .tuple ((hits q (first q) ts).map Da.bool)) (DD.as (by rw [g2]) (dd_call cH (hr.mono (by decide)) (da_cons (dd_var 5 (k2124.r q5f)) (da_cons (dd_var 9 r24) da_nil)) ⟨q, _, hq.b, req2, rfl, rfl⟩)) (dd_call cH (hr.mono (by decide)) (da_cons (dd_var 5 (k2124.r q5f)) (da_cons (dd_var 6 (k2124.r q6f)) da_nil)) ⟨q, ts, hq.b, req, rfl, rfl⟩) hr.units (hdp _))) fun H25 k25 => b_nil ?_)
    have kG : Kp [] H16 H25 := (k1621.trans k22).trans ((k23.trans k24).trans k25)
    refine ⟨(k11.trans kE).trans kG.to, ⟨_, _, _, _, _, _, _, rfl⟩, (pn16.up kG).le (by omega)⟩
  · obtain ⟨⟨o3, o4, o5, o6, o7, o8, o9, rfl⟩, pn9⟩ := hP
    exact ⟨(k48.to.trans k9 |> fun k => (Kp.refl H4).close k p4), _, _, _, _, _, _, _, _, _, rfl⟩
end
end G28
namespace G28
open PySem PySem.Spec PyProof.Rows L2
def hd (x : Str) (st : Stmt) : He.DefD := ⟨(x, none), x, x, defArgs st, defBody st, defScope st, [], []⟩
def fns : List He.DefD := [hd "followed" sFollowed, hd "end_of" sEndOf, hd "is_whole" sIsWhole, hd "is_order" sIsOrder, hd "is_move" sIsMove, hd "are_moves" sAreMoves, hd "is_label_row" sIsLabelRow, hd "is_rule" sIsRule, hd "need_rule" sNeedRule, hd "is_thing" sIsThing, hd "first_state" sFirstState, hd "is_row" sIsRow, hd "is_state_of" sIsStateOf, hd "arranged" sArranged, hd "step" sStep, hd "need_rules" sNeedRules, hd "named" sNamed, hd "first_pair" sFirstPair, hd "start" sStart, hd "is_pair" sIsPair, hd "is_arrangement" sIsArrangement, hd "how_many" sHowMany, hd "moved_by" sMovedBy, hd "steps_of" sStepsOf, hd "moved" sMoved, hd "walk_of" sWalkOf, hd "need_walk" sNeedWalk, hd "walked" sWalked, hd "seen_in" sSeenIn, hd "played" sPlayed, hd "is_requests" sIsRequests, hd "need_requests" sNeedRequests, hd "run_of" sRunOf, hd "checked_run" sCheckedRun, hd "behind" sBehind, hd "hits" sHits, hd "_law_named" sLwNamed, hd "_law_pen" sLwPen, hd "_law_cell_at" sLwCellAt, hd "_law_draw" sLwDraw, hd "_law_front" sLwFront, hd "_law_one_label" sLwOneLabel, hd "_law_recent" sLwRecent, hd "_law_queue" sLwQueue, hd "_law_newest" sLwNewest, hd "_law_mixed" sLwMixed, hd "_law_moves" sLwMoves, hd "_law_drawn" sLwDrawn, hd "_law_rule" sLwRule, hd "_law_two" sLwTwo, hd "_law_first" sLwFirst, hd "_law_met" sLwMet, hd "_law_many" sLwMany, hd "_law_asked" sLwAsked, hd "_law_moved" sLwMoved, hd "_law_walk" sLwWalk, hd "_law_pick" sLwPick, hd "_law_wishes" sLwWishes, hd "_law_numbers" sLwNumbers, hd "_law_right" sLwRight, hd "law" sLaw]
def facts : List He.Fa := [.glo "followed", .glo "end_of", .glo "is_whole", .glo "is_order", .glo "is_move", .glo "are_moves", .glo "is_label_row", .glo "is_rule", .glo "need_rule", .glo "is_thing", .glo "first_state", .glo "is_row", .glo "is_state_of", .glo "arranged", .glo "step", .glo "need_rules", .glo "named", .glo "first_pair", .glo "start", .glo "is_pair", .glo "is_arrangement", .glo "how_many", .glo "moved_by", .glo "steps_of", .glo "moved", .glo "walk_of", .glo "need_walk", .glo "walked", .glo "seen_in", .glo "played", .glo "is_requests", .glo "need_requests", .glo "run_of", .glo "checked_run", .glo "behind", .glo "hits", .glo "_law_named", .glo "_law_pen", .glo "_law_cell_at", .glo "_law_draw", .glo "_law_front", .glo "_law_one_label", .glo "_law_recent", .glo "_law_queue", .glo "_law_newest", .glo "_law_mixed", .glo "_law_moves", .glo "_law_drawn", .glo "_law_rule", .glo "_law_two", .glo "_law_first", .glo "_law_met", .glo "_law_many", .glo "_law_asked", .glo "_law_moved", .glo "_law_walk", .glo "_law_pick", .glo "_law_wishes", .glo "_law_numbers", .glo "_law_right", .glo "law", .free "isinstance", .free "int", .free "bool", .free "tuple", .free "len", .free "all", .free "sorted", .free "list", .free "range", .free "max", .free "min", .free "repr", .free "enumerate", .int "MOST_PLACES" (4), .int "MOST_LABELS" (16), .int "MOST_THING" (99), .int "BLANK" (-1), .int "MOST_REQUESTS" (60)]
def loose0 : List Str := ["GoesError", "NoRule", "NoRequests", "NoArrangement", "NoNumber", "NoWalk", "followed", "end_of", "MOST_PLACES", "MOST_LABELS", "MOST_THING", "BLANK", "is_whole", "is_order", "is_move", "are_moves", "is_label_row", "is_rule", "need_rule", "is_thing"]
def loose1 : List Str := ["first_state", "is_row", "is_state_of", "arranged", "step", "need_rules", "named", "first_pair", "start", "is_pair", "is_arrangement", "how_many", "moved_by", "steps_of", "moved", "walk_of", "need_walk", "walked", "seen_in", "played"]
def loose2 : List Str := ["MOST_REQUESTS", "is_requests", "need_requests", "run_of", "checked_run", "behind", "hits", "_law_named", "_law_pen", "_law_cell_at", "_law_draw", "_law_front", "_law_one_label", "_law_recent", "_law_queue", "_law_newest", "_law_mixed", "_law_moves", "_law_drawn", "_law_rule"]
def loose3 : List Str := ["_law_two", "_law_first", "_law_met", "_law_many", "_law_asked", "_law_moved", "_law_walk", "_law_pick", "_law_wishes", "_law_numbers", "_law_right"]
abbrev LW : PySem.W.OpenLaw := PySem.Challenge.rw_goesout_k28_whole_walks_and_runs
abbrev RR : PySem.W.OpenRow := PySem.W.OpenLaw.row LW
abbrev tf : List He.Defn := [("steps_of", none)]
abbrev hk : PySem.W.Hook := He.hookX 3 facts fns [] tf (fun _ => true)
def ob (s : PySem.W.SharedT) : He.AlX := He.obsX 3 facts fns [] tf (fun _ => true) (HandSHeadRun.getT s)
theorem ob_eq (s : PySem.W.SharedT) : ob s = hk.obs s.abs := He.obsX_eq (HandSHeadRun.getT_eq s)
def lawIx : Nat := 77
def looseN : List Str := loose0 ++ loose1 ++ loose2 ++ loose3

theorem runs (w : World) : HandSHeadRun.RunEq RR (PySem.W.view RR.prog [77]) hk ob 20000 looseN w := by
  intro os
  kernel_rfl
end G28
namespace G28
open PySem PySem.Spec PyProof.Rows L2
open LamX (CodeO TabB)
/-! ### the defs at the head -/
theorem fun_of {K : PySem.W.Frag} {x : Str} {st : Stmt} {f : Addr} {fd : FuncData} (F : FunD K x x (defArgs st) (defBody st) (defScope st) [] [] f fd) : Fun K x x st f fd := by
  obtain ⟨oc, od, dV, kV, doc, pm, an, cdv, ct, osl, e, lk, hcd, hD, hK⟩ := F.ex
  rcases hD with ⟨_, rfl⟩ | ⟨z, _⟩
  · exact ⟨⟨oc, od, kV, doc, pm, an, cdv, ct, osl, e, lk, hcd⟩, F.kp⟩
  · exact absurd rfl z
section
variable {K : PySem.W.Frag} {mg : Str → Option Value} {h : Heap}
theorem at_ (X : K.In h) (G : h.Ns mainGlobals mg) (c : He.SaysD facts fns K) {x : Str} {st : Stmt} {ps : List Str} (hf : hd x st ∈ fns) (hg : He.Fa.glo x ∈ facts) (hb : ∀ (kV doc pm : Value) (an : Option Addr) (cdv ct : Value) (us : List Value), us.length = ps.length → bindArgs (PySem.W.fnOf x x (defArgs st) (defBody st) (defScope st) .none kV doc pm an cdv ct) ⟨us, []⟩ = pure (ps.zip us)) : DefAt K mg x st ps := by
  obtain ⟨fd, F⟩ := c.defs hf
  have F2 : FunD K x x (defArgs st) (defBody st) (defScope st) [] [] (He.fAd K (x, none)) fd := F
  exact ⟨_, fd, fun_of F2, He.glo_ok X G (c.facts hg), FunD.bindsN F2 hb⟩
theorem bt_of (X : K.In h) (G : h.Ns mainGlobals mg) (c : He.SaysD facts fns K) : Bt mg :=
  ⟨He.free_ok X G (c.fact 61 (f := .free "isinstance") rfl), He.free_ok X G (c.fact 62 (f := .free "int") rfl), He.free_ok X G (c.fact 63 (f := .free "bool") rfl), He.free_ok X G (c.fact 64 (f := .free "tuple") rfl), He.free_ok X G (c.fact 65 (f := .free "len") rfl), He.free_ok X G (c.fact 66 (f := .free "all") rfl), He.free_ok X G (c.fact 67 (f := .free "sorted") rfl), He.free_ok X G (c.fact 68 (f := .free "list") rfl), He.free_ok X G (c.fact 69 (f := .free "range") rfl), He.free_ok X G (c.fact 70 (f := .free "max") rfl), He.free_ok X G (c.fact 71 (f := .free "min") rfl), He.free_ok X G (c.fact 72 (f := .free "repr") rfl), He.free_ok X G (c.fact 73 (f := .free "enumerate") rfl), He.int_ok X G (c.fact 74 (f := .int "MOST_PLACES" (4)) rfl), He.int_ok X G (c.fact 75 (f := .int "MOST_LABELS" (16)) rfl), He.int_ok X G (c.fact 76 (f := .int "MOST_THING" (99)) rfl), He.int_ok X G (c.fact 77 (f := .int "BLANK" (-1)) rfl), He.int_ok X G (c.fact 78 (f := .int "MOST_REQUESTS" (60)) rfl)⟩
theorem dfFollowed (X : K.In h) (G : h.Ns mainGlobals mg) (c : He.SaysD facts fns K) : DefAt K mg "followed" sFollowed ["here", "steps_of", "names"] := at_ X G c (List.mem_of_getElem? (i := 0) rfl) (List.mem_of_getElem? (i := 0) rfl) fun _ _ _ _ _ _ us hl => match us, hl with | [_, _, _], _ => rfl
theorem dfEndOf (X : K.In h) (G : h.Ns mainGlobals mg) (c : He.SaysD facts fns K) : DefAt K mg "end_of" sEndOf ["first", "steps"] := at_ X G c (List.mem_of_getElem? (i := 1) rfl) (List.mem_of_getElem? (i := 1) rfl) fun _ _ _ _ _ _ us hl => match us, hl with | [_, _], _ => rfl
theorem dfIsWhole (X : K.In h) (G : h.Ns mainGlobals mg) (c : He.SaysD facts fns K) : DefAt K mg "is_whole" sIsWhole ["thing", "low", "high"] := at_ X G c (List.mem_of_getElem? (i := 2) rfl) (List.mem_of_getElem? (i := 2) rfl) fun _ _ _ _ _ _ us hl => match us, hl with | [_, _, _], _ => rfl
theorem dfIsOrder (X : K.In h) (G : h.Ns mainGlobals mg) (c : He.SaysD facts fns K) : DefAt K mg "is_order" sIsOrder ["thing", "places"] := at_ X G c (List.mem_of_getElem? (i := 3) rfl) (List.mem_of_getElem? (i := 3) rfl) fun _ _ _ _ _ _ us hl => match us, hl with | [_, _], _ => rfl
theorem dfIsMove (X : K.In h) (G : h.Ns mainGlobals mg) (c : He.SaysD facts fns K) : DefAt K mg "is_move" sIsMove ["thing", "places", "labels"] := at_ X G c (List.mem_of_getElem? (i := 4) rfl) (List.mem_of_getElem? (i := 4) rfl) fun _ _ _ _ _ _ us hl => match us, hl with | [_, _, _], _ => rfl
theorem dfAreMoves (X : K.In h) (G : h.Ns mainGlobals mg) (c : He.SaysD facts fns K) : DefAt K mg "are_moves" sAreMoves ["thing", "places", "labels"] := at_ X G c (List.mem_of_getElem? (i := 5) rfl) (List.mem_of_getElem? (i := 5) rfl) fun _ _ _ _ _ _ us hl => match us, hl with | [_, _, _], _ => rfl
theorem dfIsLabelRow (X : K.In h) (G : h.Ns mainGlobals mg) (c : He.SaysD facts fns K) : DefAt K mg "is_label_row" sIsLabelRow ["thing", "places", "labels"] := at_ X G c (List.mem_of_getElem? (i := 6) rfl) (List.mem_of_getElem? (i := 6) rfl) fun _ _ _ _ _ _ us hl => match us, hl with | [_, _, _], _ => rfl
theorem dfIsRule (X : K.In h) (G : h.Ns mainGlobals mg) (c : He.SaysD facts fns K) : DefAt K mg "is_rule" sIsRule ["thing"] := at_ X G c (List.mem_of_getElem? (i := 7) rfl) (List.mem_of_getElem? (i := 7) rfl) fun _ _ _ _ _ _ us hl => match us, hl with | [_], _ => rfl
theorem dfNeedRule (X : K.In h) (G : h.Ns mainGlobals mg) (c : He.SaysD facts fns K) : DefAt K mg "need_rule" sNeedRule ["rule"] := at_ X G c (List.mem_of_getElem? (i := 8) rfl) (List.mem_of_getElem? (i := 8) rfl) fun _ _ _ _ _ _ us hl => match us, hl with | [_], _ => rfl
theorem dfIsThing (X : K.In h) (G : h.Ns mainGlobals mg) (c : He.SaysD facts fns K) : DefAt K mg "is_thing" sIsThing ["thing"] := at_ X G c (List.mem_of_getElem? (i := 9) rfl) (List.mem_of_getElem? (i := 9) rfl) fun _ _ _ _ _ _ us hl => match us, hl with | [_], _ => rfl
theorem dfFirstState (X : K.In h) (G : h.Ns mainGlobals mg) (c : He.SaysD facts fns K) : DefAt K mg "first_state" sFirstState ["rule"] := at_ X G c (List.mem_of_getElem? (i := 10) rfl) (List.mem_of_getElem? (i := 10) rfl) fun _ _ _ _ _ _ us hl => match us, hl with | [_], _ => rfl
theorem dfIsRow (X : K.In h) (G : h.Ns mainGlobals mg) (c : He.SaysD facts fns K) : DefAt K mg "is_row" sIsRow ["thing", "places"] := at_ X G c (List.mem_of_getElem? (i := 11) rfl) (List.mem_of_getElem? (i := 11) rfl) fun _ _ _ _ _ _ us hl => match us, hl with | [_, _], _ => rfl
theorem dfIsStateOf (X : K.In h) (G : h.Ns mainGlobals mg) (c : He.SaysD facts fns K) : DefAt K mg "is_state_of" sIsStateOf ["rule", "thing"] := at_ X G c (List.mem_of_getElem? (i := 12) rfl) (List.mem_of_getElem? (i := 12) rfl) fun _ _ _ _ _ _ us hl => match us, hl with | [_, _], _ => rfl
theorem dfArranged (X : K.In h) (G : h.Ns mainGlobals mg) (c : He.SaysD facts fns K) : DefAt K mg "arranged" sArranged ["row", "order"] := at_ X G c (List.mem_of_getElem? (i := 13) rfl) (List.mem_of_getElem? (i := 13) rfl) fun _ _ _ _ _ _ us hl => match us, hl with | [_, _], _ => rfl
theorem dfStep (X : K.In h) (G : h.Ns mainGlobals mg) (c : He.SaysD facts fns K) : DefAt K mg "step" sStep ["rule", "state", "thing"] := at_ X G c (List.mem_of_getElem? (i := 14) rfl) (List.mem_of_getElem? (i := 14) rfl) fun _ _ _ _ _ _ us hl => match us, hl with | [_, _, _], _ => rfl
theorem dfNeedRules (X : K.In h) (G : h.Ns mainGlobals mg) (c : He.SaysD facts fns K) : DefAt K mg "need_rules" sNeedRules ["one", "other"] := at_ X G c (List.mem_of_getElem? (i := 15) rfl) (List.mem_of_getElem? (i := 15) rfl) fun _ _ _ _ _ _ us hl => match us, hl with | [_, _], _ => rfl
theorem dfNamed (X : K.In h) (G : h.Ns mainGlobals mg) (c : He.SaysD facts fns K) : DefAt K mg "named" sNamed ["mine", "its"] := at_ X G c (List.mem_of_getElem? (i := 16) rfl) (List.mem_of_getElem? (i := 16) rfl) fun _ _ _ _ _ _ us hl => match us, hl with | [_, _], _ => rfl
theorem dfFirstPair (X : K.In h) (G : h.Ns mainGlobals mg) (c : He.SaysD facts fns K) : DefAt K mg "first_pair" sFirstPair ["one", "other"] := at_ X G c (List.mem_of_getElem? (i := 17) rfl) (List.mem_of_getElem? (i := 17) rfl) fun _ _ _ _ _ _ us hl => match us, hl with | [_, _], _ => rfl
theorem dfStart (X : K.In h) (G : h.Ns mainGlobals mg) (c : He.SaysD facts fns K) : DefAt K mg "start" sStart ["one", "other"] := at_ X G c (List.mem_of_getElem? (i := 18) rfl) (List.mem_of_getElem? (i := 18) rfl) fun _ _ _ _ _ _ us hl => match us, hl with | [_, _], _ => rfl
theorem dfIsPair (X : K.In h) (G : h.Ns mainGlobals mg) (c : He.SaysD facts fns K) : DefAt K mg "is_pair" sIsPair ["one", "other", "thing"] := at_ X G c (List.mem_of_getElem? (i := 19) rfl) (List.mem_of_getElem? (i := 19) rfl) fun _ _ _ _ _ _ us hl => match us, hl with | [_, _, _], _ => rfl
theorem dfIsArrangement (X : K.In h) (G : h.Ns mainGlobals mg) (c : He.SaysD facts fns K) : DefAt K mg "is_arrangement" sIsArrangement ["one", "other", "thing"] := at_ X G c (List.mem_of_getElem? (i := 20) rfl) (List.mem_of_getElem? (i := 20) rfl) fun _ _ _ _ _ _ us hl => match us, hl with | [_, _, _], _ => rfl
theorem dfHowMany (X : K.In h) (G : h.Ns mainGlobals mg) (c : He.SaysD facts fns K) : DefAt K mg "how_many" sHowMany ["arrangement"] := at_ X G c (List.mem_of_getElem? (i := 21) rfl) (List.mem_of_getElem? (i := 21) rfl) fun _ _ _ _ _ _ us hl => match us, hl with | [_], _ => rfl
theorem dfMovedBy (X : K.In h) (G : h.Ns mainGlobals mg) (c : He.SaysD facts fns K) : DefAt K mg "moved_by" sMovedBy ["one", "other", "arrangement", "number"] := at_ X G c (List.mem_of_getElem? (i := 22) rfl) (List.mem_of_getElem? (i := 22) rfl) fun _ _ _ _ _ _ us hl => match us, hl with | [_, _, _, _], _ => rfl
theorem dfStepsOf (X : K.In h) (G : h.Ns mainGlobals mg) (c : He.SaysD facts fns K) : DefAt K mg "steps_of" sStepsOf ["one", "other"] := at_ X G c (List.mem_of_getElem? (i := 23) rfl) (List.mem_of_getElem? (i := 23) rfl) fun _ _ _ _ _ _ us hl => match us, hl with | [_, _], _ => rfl
theorem dfMoved (X : K.In h) (G : h.Ns mainGlobals mg) (c : He.SaysD facts fns K) : DefAt K mg "moved" sMoved ["one", "other", "arrangement", "number"] := at_ X G c (List.mem_of_getElem? (i := 24) rfl) (List.mem_of_getElem? (i := 24) rfl) fun _ _ _ _ _ _ us hl => match us, hl with | [_, _, _, _], _ => rfl
theorem dfWalkOf (X : K.In h) (G : h.Ns mainGlobals mg) (c : He.SaysD facts fns K) : DefAt K mg "walk_of" sWalkOf ["one", "other", "walk"] := at_ X G c (List.mem_of_getElem? (i := 25) rfl) (List.mem_of_getElem? (i := 25) rfl) fun _ _ _ _ _ _ us hl => match us, hl with | [_, _, _], _ => rfl
theorem dfNeedWalk (X : K.In h) (G : h.Ns mainGlobals mg) (c : He.SaysD facts fns K) : DefAt K mg "need_walk" sNeedWalk ["one", "other", "walk"] := at_ X G c (List.mem_of_getElem? (i := 26) rfl) (List.mem_of_getElem? (i := 26) rfl) fun _ _ _ _ _ _ us hl => match us, hl with | [_, _, _], _ => rfl
theorem dfWalked (X : K.In h) (G : h.Ns mainGlobals mg) (c : He.SaysD facts fns K) : DefAt K mg "walked" sWalked ["one", "other", "walk"] := at_ X G c (List.mem_of_getElem? (i := 27) rfl) (List.mem_of_getElem? (i := 27) rfl) fun _ _ _ _ _ _ us hl => match us, hl with | [_, _, _], _ => rfl
theorem dfSeenIn (X : K.In h) (G : h.Ns mainGlobals mg) (c : He.SaysD facts fns K) : DefAt K mg "seen_in" sSeenIn ["mine", "its"] := at_ X G c (List.mem_of_getElem? (i := 28) rfl) (List.mem_of_getElem? (i := 28) rfl) fun _ _ _ _ _ _ us hl => match us, hl with | [_, _], _ => rfl
theorem dfPlayed (X : K.In h) (G : h.Ns mainGlobals mg) (c : He.SaysD facts fns K) : DefAt K mg "played" sPlayed ["one", "other", "walk"] := at_ X G c (List.mem_of_getElem? (i := 29) rfl) (List.mem_of_getElem? (i := 29) rfl) fun _ _ _ _ _ _ us hl => match us, hl with | [_, _, _], _ => rfl
theorem dfIsRequests (X : K.In h) (G : h.Ns mainGlobals mg) (c : He.SaysD facts fns K) : DefAt K mg "is_requests" sIsRequests ["thing"] := at_ X G c (List.mem_of_getElem? (i := 30) rfl) (List.mem_of_getElem? (i := 30) rfl) fun _ _ _ _ _ _ us hl => match us, hl with | [_], _ => rfl
theorem dfNeedRequests (X : K.In h) (G : h.Ns mainGlobals mg) (c : He.SaysD facts fns K) : DefAt K mg "need_requests" sNeedRequests ["requests"] := at_ X G c (List.mem_of_getElem? (i := 31) rfl) (List.mem_of_getElem? (i := 31) rfl) fun _ _ _ _ _ _ us hl => match us, hl with | [_], _ => rfl
theorem dfRunOf (X : K.In h) (G : h.Ns mainGlobals mg) (c : He.SaysD facts fns K) : DefAt K mg "run_of" sRunOf ["rule", "requests"] := at_ X G c (List.mem_of_getElem? (i := 32) rfl) (List.mem_of_getElem? (i := 32) rfl) fun _ _ _ _ _ _ us hl => match us, hl with | [_, _], _ => rfl
theorem dfCheckedRun (X : K.In h) (G : h.Ns mainGlobals mg) (c : He.SaysD facts fns K) : DefAt K mg "checked_run" sCheckedRun ["rule", "requests"] := at_ X G c (List.mem_of_getElem? (i := 33) rfl) (List.mem_of_getElem? (i := 33) rfl) fun _ _ _ _ _ _ us hl => match us, hl with | [_, _], _ => rfl
theorem dfBehind (X : K.In h) (G : h.Ns mainGlobals mg) (c : He.SaysD facts fns K) : DefAt K mg "behind" sBehind ["rule", "requests"] := at_ X G c (List.mem_of_getElem? (i := 34) rfl) (List.mem_of_getElem? (i := 34) rfl) fun _ _ _ _ _ _ us hl => match us, hl with | [_, _], _ => rfl
theorem dfHits (X : K.In h) (G : h.Ns mainGlobals mg) (c : He.SaysD facts fns K) : DefAt K mg "hits" sHits ["rule", "requests"] := at_ X G c (List.mem_of_getElem? (i := 35) rfl) (List.mem_of_getElem? (i := 35) rfl) fun _ _ _ _ _ _ us hl => match us, hl with | [_, _], _ => rfl
theorem dfLwNamed (X : K.In h) (G : h.Ns mainGlobals mg) (c : He.SaysD facts fns K) : DefAt K mg "_law_named" sLwNamed ["_law_pair"] := at_ X G c (List.mem_of_getElem? (i := 36) rfl) (List.mem_of_getElem? (i := 36) rfl) fun _ _ _ _ _ _ us hl => match us, hl with | [_], _ => rfl
theorem dfLwPen (X : K.In h) (G : h.Ns mainGlobals mg) (c : He.SaysD facts fns K) : DefAt K mg "_law_pen" sLwPen ["_law_cell"] := at_ X G c (List.mem_of_getElem? (i := 37) rfl) (List.mem_of_getElem? (i := 37) rfl) fun _ _ _ _ _ _ us hl => match us, hl with | [_], _ => rfl
theorem dfLwCellAt (X : K.In h) (G : h.Ns mainGlobals mg) (c : He.SaysD facts fns K) : DefAt K mg "_law_cell_at" sLwCellAt ["_law_script", "_law_k"] := at_ X G c (List.mem_of_getElem? (i := 38) rfl) (List.mem_of_getElem? (i := 38) rfl) fun _ _ _ _ _ _ us hl => match us, hl with | [_, _], _ => rfl
theorem dfLwDraw (X : K.In h) (G : h.Ns mainGlobals mg) (c : He.SaysD facts fns K) : DefAt K mg "_law_draw" sLwDraw ["_law_pen_here", "_law_many_here"] := at_ X G c (List.mem_of_getElem? (i := 39) rfl) (List.mem_of_getElem? (i := 39) rfl) fun _ _ _ _ _ _ us hl => match us, hl with | [_, _], _ => rfl
theorem dfLwFront (X : K.In h) (G : h.Ns mainGlobals mg) (c : He.SaysD facts fns K) : DefAt K mg "_law_front" sLwFront ["_law_place", "_law_places"] := at_ X G c (List.mem_of_getElem? (i := 40) rfl) (List.mem_of_getElem? (i := 40) rfl) fun _ _ _ _ _ _ us hl => match us, hl with | [_, _], _ => rfl
theorem dfLwOneLabel (X : K.In h) (G : h.Ns mainGlobals mg) (c : He.SaysD facts fns K) : DefAt K mg "_law_one_label" sLwOneLabel ["_law_places", "_law_hit_orders", "_law_out", "_law_come_orders"] := at_ X G c (List.mem_of_getElem? (i := 41) rfl) (List.mem_of_getElem? (i := 41) rfl) fun _ _ _ _ _ _ us hl => match us, hl with | [_, _, _, _], _ => rfl
theorem dfLwRecent (X : K.In h) (G : h.Ns mainGlobals mg) (c : He.SaysD facts fns K) : DefAt K mg "_law_recent" sLwRecent ["_law_places"] := at_ X G c (List.mem_of_getElem? (i := 42) rfl) (List.mem_of_getElem? (i := 42) rfl) fun _ _ _ _ _ _ us hl => match us, hl with | [_], _ => rfl
theorem dfLwQueue (X : K.In h) (G : h.Ns mainGlobals mg) (c : He.SaysD facts fns K) : DefAt K mg "_law_queue" sLwQueue ["_law_places"] := at_ X G c (List.mem_of_getElem? (i := 43) rfl) (List.mem_of_getElem? (i := 43) rfl) fun _ _ _ _ _ _ us hl => match us, hl with | [_], _ => rfl
theorem dfLwNewest (X : K.In h) (G : h.Ns mainGlobals mg) (c : He.SaysD facts fns K) : DefAt K mg "_law_newest" sLwNewest ["_law_places"] := at_ X G c (List.mem_of_getElem? (i := 44) rfl) (List.mem_of_getElem? (i := 44) rfl) fun _ _ _ _ _ _ us hl => match us, hl with | [_], _ => rfl
theorem dfLwMixed (X : K.In h) (G : h.Ns mainGlobals mg) (c : He.SaysD facts fns K) : DefAt K mg "_law_mixed" sLwMixed ["_law_pen_here", "_law_things"] := at_ X G c (List.mem_of_getElem? (i := 45) rfl) (List.mem_of_getElem? (i := 45) rfl) fun _ _ _ _ _ _ us hl => match us, hl with | [_, _], _ => rfl
theorem dfLwMoves (X : K.In h) (G : h.Ns mainGlobals mg) (c : He.SaysD facts fns K) : DefAt K mg "_law_moves" sLwMoves ["_law_pen_here", "_law_places", "_law_labels"] := at_ X G c (List.mem_of_getElem? (i := 46) rfl) (List.mem_of_getElem? (i := 46) rfl) fun _ _ _ _ _ _ us hl => match us, hl with | [_, _, _], _ => rfl
theorem dfLwDrawn (X : K.In h) (G : h.Ns mainGlobals mg) (c : He.SaysD facts fns K) : DefAt K mg "_law_drawn" sLwDrawn ["_law_pen_here", "_law_places", "_law_labels"] := at_ X G c (List.mem_of_getElem? (i := 47) rfl) (List.mem_of_getElem? (i := 47) rfl) fun _ _ _ _ _ _ us hl => match us, hl with | [_, _, _], _ => rfl
theorem dfLwRule (X : K.In h) (G : h.Ns mainGlobals mg) (c : He.SaysD facts fns K) : DefAt K mg "_law_rule" sLwRule ["_law_pen_here", "_law_most", "_law_labels"] := at_ X G c (List.mem_of_getElem? (i := 48) rfl) (List.mem_of_getElem? (i := 48) rfl) fun _ _ _ _ _ _ us hl => match us, hl with | [_, _, _], _ => rfl
theorem dfLwTwo (X : K.In h) (G : h.Ns mainGlobals mg) (c : He.SaysD facts fns K) : DefAt K mg "_law_two" sLwTwo ["_law_pen_here", "_law_most"] := at_ X G c (List.mem_of_getElem? (i := 49) rfl) (List.mem_of_getElem? (i := 49) rfl) fun _ _ _ _ _ _ us hl => match us, hl with | [_, _], _ => rfl
theorem dfLwFirst (X : K.In h) (G : h.Ns mainGlobals mg) (c : He.SaysD facts fns K) : DefAt K mg "_law_first" sLwFirst ["_law_rule_here"] := at_ X G c (List.mem_of_getElem? (i := 50) rfl) (List.mem_of_getElem? (i := 50) rfl) fun _ _ _ _ _ _ us hl => match us, hl with | [_], _ => rfl
theorem dfLwMet (X : K.In h) (G : h.Ns mainGlobals mg) (c : He.SaysD facts fns K) : DefAt K mg "_law_met" sLwMet ["_law_one", "_law_other"] := at_ X G c (List.mem_of_getElem? (i := 51) rfl) (List.mem_of_getElem? (i := 51) rfl) fun _ _ _ _ _ _ us hl => match us, hl with | [_, _], _ => rfl
theorem dfLwMany (X : K.In h) (G : h.Ns mainGlobals mg) (c : He.SaysD facts fns K) : DefAt K mg "_law_many" sLwMany ["_law_pair"] := at_ X G c (List.mem_of_getElem? (i := 52) rfl) (List.mem_of_getElem? (i := 52) rfl) fun _ _ _ _ _ _ us hl => match us, hl with | [_], _ => rfl
theorem dfLwAsked (X : K.In h) (G : h.Ns mainGlobals mg) (c : He.SaysD facts fns K) : DefAt K mg "_law_asked" sLwAsked ["_law_rule_here", "_law_state", "_law_thing"] := at_ X G c (List.mem_of_getElem? (i := 53) rfl) (List.mem_of_getElem? (i := 53) rfl) fun _ _ _ _ _ _ us hl => match us, hl with | [_, _, _], _ => rfl
theorem dfLwMoved (X : K.In h) (G : h.Ns mainGlobals mg) (c : He.SaysD facts fns K) : DefAt K mg "_law_moved" sLwMoved ["_law_one", "_law_other", "_law_pair", "_law_number"] := at_ X G c (List.mem_of_getElem? (i := 54) rfl) (List.mem_of_getElem? (i := 54) rfl) fun _ _ _ _ _ _ us hl => match us, hl with | [_, _, _, _], _ => rfl
theorem dfLwWalk (X : K.In h) (G : h.Ns mainGlobals mg) (c : He.SaysD facts fns K) : DefAt K mg "_law_walk" sLwWalk ["_law_pen_here", "_law_one", "_law_other", "_law_most"] := at_ X G c (List.mem_of_getElem? (i := 55) rfl) (List.mem_of_getElem? (i := 55) rfl) fun _ _ _ _ _ _ us hl => match us, hl with | [_, _, _, _], _ => rfl
theorem dfLwPick (X : K.In h) (G : h.Ns mainGlobals mg) (c : He.SaysD facts fns K) : DefAt K mg "_law_pick" sLwPick ["_law_pen_here", "_law_things"] := at_ X G c (List.mem_of_getElem? (i := 56) rfl) (List.mem_of_getElem? (i := 56) rfl) fun _ _ _ _ _ _ us hl => match us, hl with | [_, _], _ => rfl
theorem dfLwWishes (X : K.In h) (G : h.Ns mainGlobals mg) (c : He.SaysD facts fns K) : DefAt K mg "_law_wishes" sLwWishes ["_law_pen_here", "_law_most", "_law_many_here"] := at_ X G c (List.mem_of_getElem? (i := 57) rfl) (List.mem_of_getElem? (i := 57) rfl) fun _ _ _ _ _ _ us hl => match us, hl with | [_, _, _], _ => rfl
theorem dfLwNumbers (X : K.In h) (G : h.Ns mainGlobals mg) (c : He.SaysD facts fns K) : DefAt K mg "_law_numbers" sLwNumbers ["_law_pen_here", "_law_one", "_law_other", "_law_wishes_here"] := at_ X G c (List.mem_of_getElem? (i := 58) rfl) (List.mem_of_getElem? (i := 58) rfl) fun _ _ _ _ _ _ us hl => match us, hl with | [_, _, _, _], _ => rfl
theorem dfLwRight (X : K.In h) (G : h.Ns mainGlobals mg) (c : He.SaysD facts fns K) : DefAt K mg "_law_right" sLwRight ["_law_one", "_law_other", "_law_walk_here"] := at_ X G c (List.mem_of_getElem? (i := 59) rfl) (List.mem_of_getElem? (i := 59) rfl) fun _ _ _ _ _ _ us hl => match us, hl with | [_, _, _], _ => rfl
theorem dfLaw (X : K.In h) (G : h.Ns mainGlobals mg) (c : He.SaysD facts fns K) : DefAt K mg "law" sLaw ["_law_script"] := at_ X G c (List.mem_of_getElem? (i := 60) rfl) (List.mem_of_getElem? (i := 60) rfl) fun _ _ _ _ _ _ us hl => match us, hl with | [_], _ => rfl
end
end G28
namespace G28
open PySem PySem.Spec PyProof.Rows L2
open LamX (CodeO TabB)
/-! ### the whole -/
section
variable [Tb] {P : Program} {w : World} {K : PySem.W.Frag} {mg : Str → Option Value} {base : Heap}
theorem mk_of {f : Addr} {fd : FuncData} (F : Fun K "steps_of" "steps_of" sStepsOf f fd) (hm : mg "steps_of" = some (.ref f)) (hb : Binds K fd ["one", "other"] []) (hf : f = He.fAd K ("steps_of", none)) (hnm : ∀ a b, Tb.nm a b = qSteps) (TB : TabB base mg (He.codeOf K ("steps_of", none)) Tb.P) : CMk P w K mg base := by
  obtain ⟨oc, od, kV, doc, pm, an, cdv, ct, osl, rfl, lk, hcd⟩ := F.ex
  obtain ⟨c, rfl⟩ := He.codeIn_ref hcd
  have lk2 := lk
  rw [hf] at lk2
  have ec : He.codeOf K ("steps_of", none) = c := He.codeOf_eq lk2 rfl
  rw [ec] at TB
  exact ⟨f, _, fn_maker (k := 0) (y := "steps") (q := qSteps) (fr := ["one", "other"]) (stI := sSteps) lk hcd scStepsOf TB rfl rfl rfl hnm rfl rfl (by decide +kernel) (by decide +kernel) (by decide +kernel) rfl rfl (fun _ => rfl), hm, F.kp, hb⟩
end
section
variable [Tb] {P : Program} {w : World} {K : PySem.W.Frag} {mg : Str → Option Value} {base h : Heap}
theorem law_fn (X : K.In h) (G : h.Ns mainGlobals mg) (c : He.SaysD facts fns K) (cMk : CMk P w K mg base) {fa : Addr} {fd : FuncData} (F : Fun K "law" "law" sLaw fa fd) : FnOk P w K mg base CX0 12 fa fd ["_law_script"] (spLaw K) := by
  have B := bt_of X G c
  have cW := c_isWhole (P := P) (w := w) (base := base) B (dfIsWhole X G c)
  have cO := c_isOrder B (dfIsOrder X G c) cW
  have cMv := c_isMove B (dfIsMove X G c) cW cO
  have cAr := c_areMoves B (dfAreMoves X G c) cMv
  have cLR := c_isLabelRow B (dfIsLabelRow X G c) cW cAr
  have cRu := c_isRule B (dfIsRule X G c) cW cLR
  have cNR := c_needRule (dfNeedRule X G c) cRu
  have cTh := c_isThing B (dfIsThing X G c) cW
  have cFS := c_firstState (P := P) (w := w) (base := base) B (dfFirstState X G c)
  have cIR := c_isRow B (dfIsRow X G c) cW
  have cSt := c_isStateOf B (dfIsStateOf X G c) cW cIR
  have cAd := c_arranged (P := P) (w := w) (base := base) B (dfArranged X G c)
  have cSp := c_step B (dfStep X G c) cAd
  have cNs := c_needRules (dfNeedRules X G c) cNR
  have cFP := c_firstPair (dfFirstPair X G c) cFS
  have cSta := c_start (dfStart X G c) cNs cFP
  have cNa := c_named (P := P) (w := w) (base := base) B (dfNamed X G c)
  have cIP := c_isPair B (dfIsPair X G c) cSt cNa
  have cIA := c_isArrangement (dfIsArrangement X G c) cNs cIP
  have cHM := c_howMany (P := P) (w := w) (base := base) B (dfHowMany X G c)
  have cMB := c_movedBy (dfMovedBy X G c) cSp cNa
  have cMo := c_moved (dfMoved X G c) cNs cIP cW cHM cMB
  have SO : SOk P w K mg base := steps_ok B cHM cMB
  have cFo := c_followed B SO (dfFollowed X G c)
  have cEn := c_endOf (P := P) (w := w) (base := base) (dfEndOf X G c)
  have cWO := c_walkOf (dfWalkOf X G c) cFP cMk cFo
  have cNW := c_needWalk (dfNeedWalk X G c) cNs cWO
  have cWd := c_walked (dfWalked X G c) cNW cFP cEn
  have cSe := c_seenIn (P := P) (w := w) (base := base) B (dfSeenIn X G c)
  have cPl := c_played B (dfPlayed X G c) cNW cFP cSe cSp
  have cRq := c_isRequests B (dfIsRequests X G c) cTh
  have cNQ := c_needRequests (dfNeedRequests X G c) cRq
  have cRO := c_runOf B (dfRunOf X G c) cFS cSp
  have cCR := c_checkedRun (dfCheckedRun X G c) cNR cNQ cRO
  have cBe := c_behind (dfBehind X G c) cCR
  have cHi := c_hits (dfHits X G c) cCR
  have cPen := c_pen (P := P) (w := w) (base := base) B (dfLwPen X G c)
  have cCe := c_cellAt (P := P) (w := w) (base := base) B (dfLwCellAt X G c)
  have cD := c_draw (P := P) (w := w) (base := base) (dfLwDraw X G c)
  have cFr := c_front (P := P) (w := w) (base := base) B (dfLwFront X G c)
  have cOL := c_oneLabel (P := P) (w := w) (base := base) B (dfLwOneLabel X G c)
  have cRe := c_recent B (dfLwRecent X G c) cFr cOL
  have cQu := c_queue B (dfLwQueue X G c) cFr cOL
  have cNe := c_newest B (dfLwNewest X G c) cFr cOL
  have cMx := c_mixed B (dfLwMixed X G c) cD
  have cMs := c_moves B (dfLwMoves X G c) cD cMx
  have cDr := c_drawn B (dfLwDrawn X G c) cD cMs
  have cRl := c_rule B (dfLwRule X G c) cD cRe cQu cNe cDr
  have cTw := c_two (dfLwTwo X G c) cRl
  have cLF := c_lfirst (P := P) (w := w) (base := base) (dfLwFirst X G c)
  have cLM := c_lmet (dfLwMet X G c) cLF
  have cLY := c_lmany (P := P) (w := w) (base := base) B (dfLwMany X G c)
  have cLA := c_lasked (P := P) (w := w) (base := base) B (dfLwAsked X G c)
  have cLN := c_lnamed (P := P) (w := w) (base := base) B (dfLwNamed X G c)
  have cLV := c_lmoved (dfLwMoved X G c) cLA cLN
  have cLW := c_lwalk B (dfLwWalk X G c) cD cLM cLY cLV
  have cPi := c_pick B (dfLwPick X G c) cD
  have cWi := c_wishes B (dfLwWishes X G c) cD cMx cPi
  have cNu := c_numbers B (dfLwNumbers X G c) cBe
  have cRt := c_right B (dfLwRight X G c) cPl cSta cBe cLN cWd cHi cMo cIA
  exact c_law B F cPen cCe cTw cRt cLW cWi cNu cBe cWd cLN cPl cHi
end
theorem steps_at {K : PySem.W.Frag} {h : Heap} {mg : Str → Option Value} (X : K.In h) (G : h.Ns mainGlobals mg) (c : He.SaysD facts fns K) : ∃ fd : FuncData, (True ∧ Fun K "steps_of" "steps_of" sStepsOf (He.fAd K ("steps_of", none)) fd) ∧ mg "steps_of" = some (.ref (He.fAd K ("steps_of", none))) ∧ Binds K fd ["one", "other"] [] := by
  obtain ⟨fd, F⟩ := c.defs (d := hd "steps_of" sStepsOf) (List.mem_of_getElem? (i := 23) rfl)
  have F2 : FunD K "steps_of" "steps_of" (defArgs sStepsOf) (defBody sStepsOf) (defScope sStepsOf) [] [] (He.fAd K ("steps_of", none)) fd := F
  exact ⟨fd, ⟨trivial, fun_of F2⟩, He.glo_ok X G (c.fact 23 (f := .glo "steps_of") rfl), FunD.bindsN F2 fun _ _ _ _ _ _ us hl => match us, hl with | [_, _], _ => rfl⟩
theorem law_at {w : World} {K : PySem.W.Frag} {h : Heap} {mg : Str → Option Value} {fa : Addr} {n : Nat} (X : K.In h) (G : h.Ns mainGlobals mg) (hfa : mg ("law" : Str) = some (.ref fa)) (c : He.SaysX facts fns [] tf (fun _ => true) w h K) : LamX.LawAtS LW w K CX0 12 n "_law_script" mg fa h := by
  have cd := c.t.d
  obtain ⟨fd, F⟩ := cd.defs (d := hd "law" sLaw) (List.mem_of_getElem? (i := 60) rfl)
  have F2 : FunD K "law" "law" (defArgs sLaw) (defBody sLaw) (defScope sLaw) [] [] (He.fAd K ("law", none)) fd := F
  have e := hfa.symm.trans (He.glo_ok X G (cd.fact 60 (f := .glo "law") rfl))
  cases e
  have b := FunD.bindsA (ps := ["_law_script"]) F2 fun _ _ _ _ _ _ us hl => match us, hl with | [_], _ => rfl
  have hp : ((("steps_of" : Str), (none : Option Str)) : He.Defn) ∈ tf := List.mem_cons_self
  letI : Tb := ⟨(He.cT K ("steps_of", none)).2, fun _ _ => qSteps⟩
  refine ⟨fd, [He.cT K ("steps_of", none)], spLaw K, fun p hp' => ?_, fun p hp' => ?_, fun p hp' => ?_, fun s u => b s [u] rfl, fun H a ns _ _ hT hS => ?_, fun base KX hns TB => ?_⟩
  · rw [List.mem_singleton.mp hp']
    exact c.empty _ hp
  · rw [List.mem_singleton.mp hp']
    exact c.out _ hp
  · rw [List.mem_singleton.mp hp']
    exact PySem.W.codeHd_of_K X (c.hd _ hp)
  · exact ⟨a, ns, rfl, hS, ⟨#[], hT _ (List.mem_singleton.mpr rfl), trivial, fun pos cv z => by cases z⟩, fun _ => rfl⟩
  · obtain ⟨fs, Fs, ms, bs⟩ := steps_at X G cd
    have T := TB _ (List.mem_singleton.mpr rfl)
    exact law_fn X G cd (mk_of Fs.2 ms bs rfl (fun _ _ => rfl) T) (fun_of F2)
end G28
open PySem PySem.W PySem.Calls PyProof.Rows
theorem PySem.Challenge.cw_goesout_k28_whole_walks_and_runs_holds : PySem.Challenge.rw_goesout_k28_whole_walks_and_runs.Holds := by
  w_on; o_law
  refine HandSHeadRun.head_any (r := G28.RR) (q := view G28.RR.prog [77]) (H := G28.hk) (ob := G28.ob) (M := 20000) (loose := G28.looseN) (d := HandSHeadRun.topDef G28.RR.prog 77) (kwd := []) G28.ob_eq
    (by kernel_rfl) (fun s => by kernel_rfl) G28.runs (by kernel_rfl) (by kernel_rfl) (by kernel_rfl) (by rfl) (by first | assumption | decide +kernel) (by decide +kernel) ⟨rfl, rfl, rfl, rfl, rfl, by decide +kernel⟩ ?hw ?hc
  case hw => w_witness2
  case hc =>
    refine LamX.walk_ofTsE (l := G28.LW) (n := 63) (k := 12) (x := "_law_script") (CX := fun _ => L2.CX0) rfl (by decide) (by kernel_rfl) ⟨rfl, by decide, by decide⟩ ?F (fun _ _ _ _ _ z => z)
    intro w mg fa h Y G hmg0
    obtain ⟨K, KX, c⟩ := Y
    have hmg : mg ("law" : PySem.Str) = some (.ref fa) := by
      have e : (HandSHeadRun.topDef G28.RR.prog 77).name = ("law" : PySem.Str) := by kernel_rfl
      rw [← e]
      exact hmg0
    exact ⟨K, KX, G28.law_at KX G hmg c⟩
