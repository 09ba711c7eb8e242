import PyProof.Rows.All
import Wide.All
import OpenK.AllK
import Wide.FinOn
import HandS.ForMost
import HandS.ForExc
import HandS.Wide
import HandS.ExcOwn
import HandS.IsInst
import KE.DataEq
import KE.Datum
import HandS.Style
import PySem.Challenge.RW_hallclock_k41_fractions_and_means
set_option Elab.async false
set_option linter.all false
set_option maxRecDepth 100000
set_option maxHeartbeats 4000000
/-! F1: data, cells, the relation between a def's running state and its plain image. -/
namespace My
open PySem L2

/-- plain data -/
inductive D where
  | v (x : V)
  | tup (ds : List D)
  | lst (ds : List D)
  | scr (ds : List D)
  | dct (kvs : List (Key × D))
  | ins (C : Addr) (fs : List (Str × D))
  | loc (n : Nat)
/-- what an owned object holds -/
inductive Cell where
  | lst (ds : List D)
  | dct (kvs : List (Key × D))
  | ins (C : Addr) (fs : List (Str × D))
  | gone
inductive Slot where
  | no
  | d (x : D)
  | own (m : Cell)
structure Stt where
  r : List Slot
  S : List Cell
/-- an exception: its class, its one field -/
structure Exn where
  cls : Value
  fld : Option (Str × D)
inductive R (α : Type) where
  | ok (a : α) (c : Stt)
  | ex (e : Exn) (c : Stt)
  | no
abbrev M (α : Type) := Stt → R α

mutual
inductive Rep (K : PySem.W.Frag) (F : Hp) (μ : List Addr) : V → D → Prop
  | v (x : V) : Rep K F μ x (.v x)
  | tup {a : Addr} {vs : List V} {ds : List D} : SqT K F a vs → Reps K F μ vs ds → Rep K F μ (.ref a) (.tup ds)
  | lst {a : Addr} {vs : List V} {ds : List D} : F a = some (.lst vs) → Reps K F μ vs ds → Rep K F μ (.ref a) (.lst ds)
  | scr {a : Addr} {vs : List V} {ds : List D} : SqL K F a vs → Reps K F μ vs ds → Rep K F μ (.ref a) (.scr ds)
  | dct {a : Addr} {kvs : List (Key × V)} {ds : List (Key × D)} : F a = some (.dK kvs) → kvs.map (·.1) = ds.map (·.1) → Reps K F μ (kvs.map (·.2)) (ds.map (·.2)) → Rep K F μ (.ref a) (.dct ds)
  | ins {a C dx : Addr} {fs : List (Str × V)} {ds : List (Str × D)} : F a = some (.ins C dx fs) → fs.map (·.1) = ds.map (·.1) → Reps K F μ (fs.map (·.2)) (ds.map (·.2)) → Rep K F μ (.ref a) (.ins C ds)
  | loc {n : Nat} {a : Addr} : μ[n]? = some a → Rep K F μ (.ref a) (.loc n)
inductive Reps (K : PySem.W.Frag) (F : Hp) (μ : List Addr) : List V → List D → Prop
  | nil : Reps K F μ [] []
  | cons {v : V} {d : D} {vs : List V} {ds : List D} : Rep K F μ v d → Reps K F μ vs ds → Reps K F μ (v :: vs) (d :: ds)
end

/-- the world has grown -/
structure Le (F : Hp) (μ : List Addr) (F' : Hp) (μ' : List Addr) : Prop where
  ex : Same F F'
  mu : ∀ (n : Nat) (a : Addr), μ[n]? = some a → μ'[n]? = some a
theorem Le.refl (F : Hp) (μ : List Addr) : Le F μ F μ := ⟨Same.refl F, fun _ _ h => h⟩
theorem Le.trans {F F1 F2 : Hp} {μ μ1 μ2 : List Addr} (a : Le F μ F1 μ1) (b : Le F1 μ1 F2 μ2) : Le F μ F2 μ2 := ⟨a.ex.trans b.ex, fun n x h => b.mu n x (a.mu n x h)⟩
theorem Same.seqT {K : PySem.W.Frag} {H H' : Hp} {a : Addr} {xs : List V} (e : Same H H') (h : SqT K H a xs) : SqT K H' a xs := by
  rcases h with (h | ⟨o, h⟩) | h
  · exact .inl (.inl (e _ _ h))
  · exact .inl (.inr ⟨o, e _ _ h⟩)
  · exact .inr h
theorem same_new {H : Hp} {p : Addr} {o : HO} (h : H p = none) : Same H (upd H p o) := fun b x e => by
  rw [upd_ne (ne_of_none e h)]
  exact e
section
variable {K : PySem.W.Frag} {F F' : Hp} {μ μ' : List Addr}
mutual
theorem Rep.mono (le : Le F μ F' μ') : ∀ {v : V} {d : D}, Rep K F μ v d → Rep K F' μ' v d
  | _, _, .v x => .v x
  | _, _, .tup h r => .tup (Same.seqT le.ex h) (Reps.mono le r)
  | _, _, .lst h r => .lst (le.ex _ _ h) (Reps.mono le r)
  | _, _, .scr h r => .scr (le.ex.seq h) (Reps.mono le r)
  | _, _, .dct h k r => .dct (le.ex _ _ h) k (Reps.mono le r)
  | _, _, .ins h k r => .ins (le.ex _ _ h) k (Reps.mono le r)
  | _, _, .loc h => .loc (le.mu _ _ h)
theorem Reps.mono (le : Le F μ F' μ') : ∀ {vs : List V} {ds : List D}, Reps K F μ vs ds → Reps K F' μ' vs ds
  | _, _, .nil => .nil
  | _, _, .cons h r => .cons (Rep.mono le h) (Reps.mono le r)
end
theorem Reps.length : ∀ {vs : List V} {ds : List D}, Reps K F μ vs ds → vs.length = ds.length
  | _, _, .nil => rfl
  | _, _, .cons _ r => congrArg (· + 1) (Reps.length r)
theorem Reps.append : ∀ {vs ws : List V} {ds es : List D}, Reps K F μ vs ds → Reps K F μ ws es → Reps K F μ (vs ++ ws) (ds ++ es)
  | _, _, _, _, .nil, s => s
  | _, _, _, _, .cons h r, s => .cons h (Reps.append r s)
theorem Reps.get : ∀ {vs : List V} {ds : List D} {i : Nat} {d : D}, Reps K F μ vs ds → ds[i]? = some d → ∃ v, vs[i]? = some v ∧ Rep K F μ v d
  | _, _, _, _, .nil, e => by simp at e
  | _, _, 0, _, .cons h _, e => by simp at e; subst e; exact ⟨_, rfl, h⟩
  | _, _, i + 1, d, .cons _ r, e => by
    obtain ⟨v, h1, h2⟩ := Reps.get (i := i) (d := d) r (by simpa using e)
    exact ⟨v, by simpa using h1, h2⟩
theorem Reps.getV {vs : List V} {ds : List D} {i : Nat} {v : V} (h : Reps K F μ vs ds) (e : vs[i]? = some v) : ∃ d, ds[i]? = some d ∧ Rep K F μ v d := by
  have hi := (List.getElem?_eq_some_iff.mp e).1
  have hj : i < ds.length := by rw [← h.length]; exact hi
  obtain ⟨w, h1, h2⟩ := h.get (List.getElem?_eq_getElem hj)
  rw [e] at h1
  cases h1
  exact ⟨_, List.getElem?_eq_getElem hj, h2⟩
theorem Reps.take : ∀ {vs : List V} {ds : List D} (n : Nat), Reps K F μ vs ds → Reps K F μ (vs.take n) (ds.take n)
  | _, _, 0, _ => .nil
  | _, _, _ + 1, .nil => .nil
  | _, _, n + 1, .cons h r => .cons h (Reps.take n r)
theorem Reps.drop : ∀ {vs : List V} {ds : List D} (n : Nat), Reps K F μ vs ds → Reps K F μ (vs.drop n) (ds.drop n)
  | _, _, 0, r => r
  | _, _, _ + 1, .nil => .nil
  | _, _, n + 1, .cons _ r => Reps.drop n r
theorem Reps.set {v : V} {d : D} (h : Rep K F μ v d) : ∀ {vs : List V} {ds : List D} (i : Nat), Reps K F μ vs ds → Reps K F μ (vs.set i v) (ds.set i d)
  | _, _, _, .nil => .nil
  | _, _, 0, .cons _ t => .cons h t
  | _, _, i + 1, .cons q t => .cons q (Reps.set h i t)
theorem Reps.snoc {vs : List V} {ds : List D} {v : V} {d : D} (r : Reps K F μ vs ds) (h : Rep K F μ v d) : Reps K F μ (vs ++ [v]) (ds ++ [d]) := r.append (.cons h .nil)
theorem Reps.dropLast {vs : List V} {ds : List D} (h : Reps K F μ vs ds) : Reps K F μ vs.dropLast ds.dropLast := by
  rw [List.dropLast_eq_take, List.dropLast_eq_take, h.length]
  exact h.take _
theorem Reps.map_v : ∀ (xs : List V), Reps K F μ xs (xs.map .v)
  | [] => .nil
  | x :: xs => .cons (.v x) (Reps.map_v xs)
theorem Reps.of_v : ∀ {vs xs : List V}, Reps K F μ vs (xs.map D.v) → vs = xs
  | vs, [], h => by cases h; rfl
  | vs, x :: xs, h => by
    cases h with
    | cons a r =>
      cases a
      rw [Reps.of_v r]
theorem Reps.rep {vs : List V} {ds : List D} (h : Reps K F μ vs ds) : ∀ k : Nat, Reps K F μ (List.replicate k vs).flatten (List.replicate k ds).flatten
  | 0 => .nil
  | k + 1 => by
    rw [List.replicate_succ, List.replicate_succ, List.flatten_cons, List.flatten_cons]
    exact h.append (Reps.rep h k)
end

/-- an owned object's content -/
inductive CellO (K : PySem.W.Frag) (F : Hp) (μ : List Addr) : HO → Cell → Prop
  | lst {vs : List V} {ds : List D} : Reps K F μ vs ds → CellO K F μ (.lst vs) (.lst ds)
  | dct {kvs : List (Key × V)} {ds : List (Key × D)} : kvs.map (·.1) = ds.map (·.1) → Reps K F μ (kvs.map (·.2)) (ds.map (·.2)) → CellO K F μ (.dK kvs) (.dct ds)
  | ins {C dx : Addr} {fs : List (Str × V)} {ds : List (Str × D)} : fs.map (·.1) = ds.map (·.1) → Reps K F μ (fs.map (·.2)) (ds.map (·.2)) → CellO K F μ (.ins C dx fs) (.ins C ds)
  | gone {o : HO} : CellO K F μ o .gone
theorem CellO.mono {K : PySem.W.Frag} {F F' : Hp} {μ μ' : List Addr} {o : HO} {m : Cell} (le : Le F μ F' μ') (h : CellO K F μ o m) : CellO K F' μ' o m := by
  cases h with
  | lst r => exact .lst (r.mono le)
  | dct k r => exact .dct k (r.mono le)
  | ins k r => exact .ins k (r.mono le)
  | gone => exact .gone

structure CellAt (K : PySem.W.Frag) (Z F : Hp) (μ : List Addr) (H : Hp) (a : Addr) (m : Cell) : Prop where
  z : Z a = none
  f : m ≠ .gone → F a = none
  o : ∃ o, H a = some o ∧ CellO K F μ o m
/-- the state and its image: F what stands for good, Z what others own, μ where the store's objects are -/
structure Rel (K : PySem.W.Frag) (Z F : Hp) (μ : List Addr) (c : Stt) (σ : St) (H : Hp) : Prop where
  ex : Same F H
  exz : Same Z H
  fz : ∀ a o, Z a = some o → F a = none
  len : σ.length = c.r.length
  slot : ∀ (i : Nat) (x : D), c.r[i]? = some (.d x) → ∃ v, σ[i]? = some (some v) ∧ Rep K F μ v x
  own : ∀ (i : Nat) (m : Cell), c.r[i]? = some (.own m) → ∃ a, σ[i]? = some (some (.ref a)) ∧ CellAt K Z F μ H a m ∧ m ≠ .gone
  dis : ∀ (i j : Nat) (a : Addr) (m m' : Cell), c.r[i]? = some (.own m) → c.r[j]? = some (.own m') → σ[i]? = some (some (.ref a)) → σ[j]? = some (some (.ref a)) → i = j
  lm : μ.length = c.S.length
  sto : ∀ (n : Nat) (a : Addr) (m : Cell), μ[n]? = some a → c.S[n]? = some m → CellAt K Z F μ H a m
  dst : ∀ (i n : Nat) (a : Addr) (m : Cell), c.r[i]? = some (.own m) → σ[i]? = some (some (.ref a)) → μ[n]? = some a → False
  ndm : ∀ (n k : Nat) (a : Addr), μ[n]? = some a → μ[k]? = some a → n = k

section
variable {K : PySem.W.Frag} {Z F F' : Hp} {μ μ' : List Addr} {c : Stt} {σ : St} {H H' : Hp} {p : Addr} {o : HO}
theorem CellAt.grow {a : Addr} {m : Cell} (h : CellAt K Z F μ H a m) (le : Le F μ F' μ') (hf : m ≠ .gone → F' a = none) (eh : Same H H') : CellAt K Z F' μ' H' a m :=
  ⟨h.z, hf, let ⟨o, e, q⟩ := h.o; ⟨o, eh _ _ e, q.mono le⟩⟩
/-- the heap has grown -/
theorem Rel.up (h : Rel K Z F μ c σ H) (e : Same H H') : Rel K Z F μ c σ H' :=
  { ex := h.ex.trans e, exz := h.exz.trans e, fz := h.fz, len := h.len, slot := h.slot,
    own := fun i m q => (let ⟨a, e1, e2, e3⟩ := h.own i m q; ⟨a, e1, e2.grow (Le.refl F μ) e2.f e, e3⟩), dis := h.dis, lm := h.lm,
    sto := fun n a m e1 e2 => (h.sto n a m e1 e2).grow (Le.refl F μ) (h.sto n a m e1 e2).f e, dst := h.dst, ndm := h.ndm }
theorem Rel.freeF (h : Rel K Z F μ c σ H) (n : H p = none) : F p = none := h.ex.free n
theorem Rel.freeZ (h : Rel K Z F μ c σ H) (n : H p = none) : Z p = none := h.exz.free n
/-- an object that nobody owns stands for good from now on -/
theorem Rel.fix (h : Rel K Z F μ c σ H) (hp : H p = some o) (fp : F p = none) (zp : Z p = none) (no : ∀ (i : Nat) (m : Cell), c.r[i]? = some (.own m) → σ[i]? ≠ some (some (.ref p))) (nm : ∀ (n : Nat) (m : Cell), μ[n]? = some p → c.S[n]? = some m → m = .gone) :
    Rel K Z (upd F p o) μ c σ H ∧ Le F μ (upd F p o) μ := by
  have le : Le F μ (upd F p o) μ := ⟨same_new fp, fun _ _ h => h⟩
  refine ⟨{ ex := fun b x e => ?_, exz := h.exz, fz := fun a x e => ?_, len := h.len, slot := fun i x e => (let ⟨v, e1, e2⟩ := h.slot i x e; ⟨v, e1, e2.mono le⟩), own := fun i m q => ?_, dis := h.dis, lm := h.lm, sto := fun n a m e1 e2 => ?_, dst := h.dst, ndm := h.ndm }, le⟩
  · by_cases hb : b = p
    · subst hb; rw [upd_same] at e; cases e; exact hp
    · rw [upd_ne hb] at e; exact h.ex b x e
  · have : a ≠ p := fun z => by subst z; rw [zp] at e; cases e
    rw [upd_ne this]; exact h.fz a x e
  · obtain ⟨a, e1, e2, e3⟩ := h.own i m q
    have : a ≠ p := fun z => by subst z; exact no i m q e1
    exact ⟨a, e1, e2.grow le (fun g => by rw [upd_ne this]; exact e2.f g) (Same.refl H), e3⟩
  · have e3 := h.sto n a m e1 e2
    refine e3.grow le (fun g => ?_) (Same.refl H)
    have : a ≠ p := fun z => by subst z; exact g (nm n m e1 e2)
    rw [upd_ne this]; exact e3.f g
/-- a new object that stands for good -/
theorem Rel.new (h : Rel K Z F μ c σ H) (n : H p = none) : Rel K Z (upd F p o) μ c σ (upd H p o) ∧ Le F μ (upd F p o) μ := by
  refine (h.up (same_new n)).fix upd_same (h.freeF n) (h.freeZ n) (fun i m q e => ?_) (fun k m e1 e2 => ?_)
  · obtain ⟨a, e1, ⟨_, _, u, e2, _⟩, _⟩ := h.own i m q
    rw [e1] at e; cases e; rw [n] at e2; cases e2
  · obtain ⟨_, _, u, e3, _⟩ := h.sto k p m e1 e2
    rw [n] at e3; cases e3
/-- what is fresh is nobody's -/
theorem Rel.nobody (h : Rel K Z F μ c σ H) (n : H p = none) : (∀ (i : Nat) (m : Cell), c.r[i]? = some (.own m) → σ[i]? ≠ some (some (.ref p))) ∧ (∀ (k : Nat), μ[k]? ≠ some p) := by
  refine ⟨fun i m q e => ?_, fun k e1 => ?_⟩
  · obtain ⟨a, e1, ⟨_, _, u, e2, _⟩, _⟩ := h.own i m q
    rw [e1] at e; cases e; rw [n] at e2; cases e2
  · have hk : k < c.S.length := by rw [← h.lm]; exact (List.getElem?_eq_some_iff.mp e1).1
    obtain ⟨_, _, u, e3, _⟩ := h.sto k p _ e1 (List.getElem?_eq_getElem hk)
    rw [n] at e3; cases e3
/-- a slot takes a value -/
theorem Rel.setD (h : Rel K Z F μ c σ H) {i : Nat} {v : V} {x : D} (r : Rep K F μ v x) : Rel K Z F μ ⟨c.r.set i (.d x), c.S⟩ (σ.set i (some v)) H := by
  have key : ∀ (j : Nat) (m : Cell), (c.r.set i (.d x))[j]? = some (.own m) → j ≠ i ∧ c.r[j]? = some (.own m) := fun j m q => by
    by_cases hj : j = i
    · subst hj
      rw [List.getElem?_set] at q
      simp at q
    · rw [List.getElem?_set_ne (Ne.symm hj)] at q; exact ⟨hj, q⟩
  refine { ex := h.ex, exz := h.exz, fz := h.fz, len := by simpa using h.len, slot := fun j y q => ?_, own := fun j m q => ?_, dis := fun j k a m m' q1 q2 e1 e2 => ?_, lm := h.lm, sto := h.sto, dst := fun j n a m q e1 e2 => ?_, ndm := h.ndm }
  · by_cases hj : j = i
    · subst hj
      have hl : j < c.r.length := by
        have := (List.getElem?_eq_some_iff.mp q).1
        simpa using this
      rw [List.getElem?_set_self hl] at q
      cases q
      exact ⟨v, by rw [List.getElem?_set_self (by rw [h.len]; exact hl)], r⟩
    · rw [List.getElem?_set_ne (Ne.symm hj)] at q
      obtain ⟨w, e1, e2⟩ := h.slot j y q
      exact ⟨w, by rw [List.getElem?_set_ne (Ne.symm hj)]; exact e1, e2⟩
  · obtain ⟨hj, q⟩ := key j m q
    rw [List.getElem?_set_ne (Ne.symm hj)]
    exact h.own j m q
  · obtain ⟨hj, q1⟩ := key j m q1
    obtain ⟨hk, q2⟩ := key k m' q2
    rw [List.getElem?_set_ne (Ne.symm hj)] at e1
    rw [List.getElem?_set_ne (Ne.symm hk)] at e2
    exact h.dis j k a m m' q1 q2 e1 e2
  · obtain ⟨hj, q⟩ := key j m q
    rw [List.getElem?_set_ne (Ne.symm hj)] at e1
    exact h.dst j n a m q e1 e2
/-- a slot takes an object of its own -/
theorem Rel.setOwn (h : Rel K Z F μ c σ H) {i : Nat} {m : Cell} (hp : H p = some o) (fp : F p = none) (zp : Z p = none) (no : ∀ (j : Nat) (m : Cell), c.r[j]? = some (.own m) → σ[j]? ≠ some (some (.ref p))) (nm : ∀ (n : Nat), μ[n]? ≠ some p)
    (r : CellO K F μ o m) (hm : m ≠ .gone) : Rel K Z F μ ⟨c.r.set i (.own m), c.S⟩ (σ.set i (some (.ref p))) H := by
  have key : ∀ (j : Nat) (m' : Cell), (c.r.set i (.own m))[j]? = some (.own m') → (j = i ∧ m' = m ∧ j < c.r.length) ∨ (j ≠ i ∧ c.r[j]? = some (.own m')) := fun j m' q => by
    by_cases hj : j = i
    · subst hj
      have hl : j < c.r.length := by
        have := (List.getElem?_eq_some_iff.mp q).1
        simpa using this
      rw [List.getElem?_set_self hl] at q
      cases q
      exact .inl ⟨rfl, rfl, hl⟩
    · rw [List.getElem?_set_ne (Ne.symm hj)] at q; exact .inr ⟨hj, q⟩
  refine { ex := h.ex, exz := h.exz, fz := h.fz, len := by simpa using h.len, slot := fun j y q => ?_, own := fun j m' q => ?_, dis := fun j k a m1 m2 q1 q2 e1 e2 => ?_, lm := h.lm, sto := h.sto, dst := fun j n a m' q e1 e2 => ?_, ndm := h.ndm }
  · by_cases hj : j = i
    · subst hj
      rw [List.getElem?_set] at q
      simp at q
    · rw [List.getElem?_set_ne (Ne.symm hj)] at q
      obtain ⟨w, e1, e2⟩ := h.slot j y q
      exact ⟨w, by rw [List.getElem?_set_ne (Ne.symm hj)]; exact e1, e2⟩
  · rcases key j m' q with ⟨rfl, rfl, hl⟩ | ⟨hj, q⟩
    · exact ⟨p, by rw [List.getElem?_set_self (by rw [h.len]; exact hl)], ⟨zp, fun _ => fp, o, hp, r⟩, hm⟩
    · rw [List.getElem?_set_ne (Ne.symm hj)]
      exact h.own j m' q
  · rcases key j m1 q1 with ⟨rfl, _, hl⟩ | ⟨hj, q3⟩
    · rw [List.getElem?_set_self (by rw [h.len]; exact hl)] at e1
      cases e1
      rcases key k m2 q2 with ⟨rfl, _, _⟩ | ⟨hk, q4⟩
      · rfl
      · rw [List.getElem?_set_ne (Ne.symm hk)] at e2
        exact absurd e2 (no k m2 q4)
    · rw [List.getElem?_set_ne (Ne.symm hj)] at e1
      rcases key k m2 q2 with ⟨rfl, _, hl⟩ | ⟨hk, q4⟩
      · rw [List.getElem?_set_self (by rw [h.len]; exact hl)] at e2
        cases e2
        exact absurd e1 (no j m1 q3)
      · rw [List.getElem?_set_ne (Ne.symm hk)] at e2
        exact h.dis j k a m1 m2 q3 q4 e1 e2
  · rcases key j m' q with ⟨rfl, _, hl⟩ | ⟨hj, q⟩
    · rw [List.getElem?_set_self (by rw [h.len]; exact hl)] at e1
      cases e1
      exact nm n e2
    · rw [List.getElem?_set_ne (Ne.symm hj)] at e1
      exact h.dst j n a m' q e1 e2
/-- the object of a slot is written -/
theorem Rel.write (h : Rel K Z F μ c σ H) {i : Nat} {m m' : Cell} (q : c.r[i]? = some (.own m)) (e : σ[i]? = some (some (.ref p))) (r : CellO K F μ o m') (hm : m' ≠ .gone) :
    Rel K Z F μ ⟨c.r.set i (.own m'), c.S⟩ σ (upd H p o) := by
  obtain ⟨p', e', cp, hg⟩ := h.own i m q
  rw [e] at e'; cases e'
  have hl : i < c.r.length := (List.getElem?_eq_some_iff.mp q).1
  have key : ∀ (j : Nat) (m1 : Cell), (c.r.set i (.own m'))[j]? = some (.own m1) → (j = i ∧ m1 = m') ∨ (j ≠ i ∧ c.r[j]? = some (.own m1)) := fun j m1 q1 => by
    by_cases hj : j = i
    · subst hj
      rw [List.getElem?_set_self hl] at q1
      cases q1
      exact .inl ⟨rfl, rfl⟩
    · rw [List.getElem?_set_ne (Ne.symm hj)] at q1; exact .inr ⟨hj, q1⟩
  refine { ex := fun b x eb => ?_, exz := fun b x eb => ?_, fz := h.fz, len := by simpa using h.len, slot := fun j y q1 => ?_, own := fun j m1 q1 => ?_, dis := fun j k a m1 m2 q1 q2 e1 e2 => ?_, lm := h.lm, sto := fun n a m1 e1 e2 => ?_, dst := fun j n a m1 q1 e1 e2 => ?_, ndm := h.ndm }
  · have : b ≠ p := fun z => by subst z; rw [cp.f hg] at eb; cases eb
    rw [upd_ne this]; exact h.ex b x eb
  · have : b ≠ p := fun z => by subst z; rw [cp.z] at eb; cases eb
    rw [upd_ne this]; exact h.exz b x eb
  · by_cases hj : j = i
    · subst hj
      rw [List.getElem?_set_self hl] at q1
      cases q1
    · rw [List.getElem?_set_ne (Ne.symm hj)] at q1
      exact h.slot j y q1
  · rcases key j m1 q1 with ⟨rfl, rfl⟩ | ⟨hj, q1⟩
    · exact ⟨p, e, ⟨cp.z, fun _ => cp.f hg, o, upd_same, r⟩, hm⟩
    · obtain ⟨a, e1, c1, g1⟩ := h.own j m1 q1
      have : a ≠ p := fun z => by subst z; exact hj (h.dis j i a m1 m q1 q e1 e)
      exact ⟨a, e1, ⟨c1.z, c1.f, let ⟨u, e2, e3⟩ := c1.o; ⟨u, by rw [upd_ne this]; exact e2, e3⟩⟩, g1⟩
  · rcases key j m1 q1 with ⟨rfl, _⟩ | ⟨hj, q3⟩ <;> rcases key k m2 q2 with ⟨rfl, _⟩ | ⟨hk, q4⟩
    · rfl
    · exact h.dis _ _ a m m2 q q4 e1 e2
    · exact h.dis _ _ a m1 m q3 q e1 e2
    · exact h.dis j k a m1 m2 q3 q4 e1 e2
  · have c1 := h.sto n a m1 e1 e2
    have : a ≠ p := fun z => by subst z; exact h.dst i n a m q e e1
    exact ⟨c1.z, c1.f, let ⟨u, e2, e3⟩ := c1.o; ⟨u, by rw [upd_ne this]; exact e2, e3⟩⟩
  · rcases key j m1 q1 with ⟨rfl, _⟩ | ⟨hj, q1⟩
    · exact h.dst _ n a m q e1 e2
    · exact h.dst j n a m1 q1 e1 e2
/-- the object of a slot stands for good -/
theorem Rel.freeze (h : Rel K Z F μ c σ H) {i : Nat} {m : Cell} {x : D} (q : c.r[i]? = some (.own m)) (e : σ[i]? = some (some (.ref p))) (hp : H p = some o)
    (r : Rep K (upd F p o) μ (.ref p) x) : Rel K Z (upd F p o) μ ⟨c.r.set i (.d x), c.S⟩ σ H ∧ Le F μ (upd F p o) μ := by
  obtain ⟨p', e', cp, hg⟩ := h.own i m q
  rw [e] at e'; cases e'
  have fp : F p = none := cp.f hg
  have le : Le F μ (upd F p o) μ := ⟨same_new fp, fun _ _ h => h⟩
  have hl : i < c.r.length := (List.getElem?_eq_some_iff.mp q).1
  have key : ∀ (j : Nat) (m1 : Cell), (c.r.set i (.d x))[j]? = some (.own m1) → (j ≠ i ∧ c.r[j]? = some (.own m1)) := fun j m1 q1 => by
    by_cases hj : j = i
    · subst hj
      rw [List.getElem?_set_self hl] at q1
      cases q1
    · rw [List.getElem?_set_ne (Ne.symm hj)] at q1; exact ⟨hj, q1⟩
  refine ⟨{ ex := fun b x1 eb => ?_, exz := h.exz, fz := fun a x1 ea => ?_, len := by simpa using h.len, slot := fun j y q1 => ?_, own := fun j m1 q1 => ?_, dis := fun j k a m1 m2 q1 q2 e1 e2 => ?_, lm := h.lm, sto := fun n a m1 e1 e2 => ?_, dst := fun j n a m1 q1 e1 e2 => ?_, ndm := h.ndm }, le⟩
  · by_cases hb : b = p
    · subst hb; rw [upd_same] at eb; cases eb; exact hp
    · rw [upd_ne hb] at eb; exact h.ex b x1 eb
  · have : a ≠ p := fun z => by subst z; rw [cp.z] at ea; cases ea
    rw [upd_ne this]; exact h.fz a x1 ea
  · by_cases hj : j = i
    · subst hj
      rw [List.getElem?_set_self hl] at q1
      cases q1
      exact ⟨_, e, r⟩
    · rw [List.getElem?_set_ne (Ne.symm hj)] at q1
      obtain ⟨w, e1, e2⟩ := h.slot j y q1
      exact ⟨w, e1, e2.mono le⟩
  · obtain ⟨hj, q1⟩ := key j m1 q1
    obtain ⟨a, e1, c1, g1⟩ := h.own j m1 q1
    have : a ≠ p := fun z => by subst z; exact hj (h.dis j i a m1 m q1 q e1 e)
    exact ⟨a, e1, c1.grow le (fun g => by rw [upd_ne this]; exact c1.f g) (Same.refl H), g1⟩
  · obtain ⟨hj, q1⟩ := key j m1 q1
    obtain ⟨hk, q2⟩ := key k m2 q2
    exact h.dis j k a m1 m2 q1 q2 e1 e2
  · have c1 := h.sto n a m1 e1 e2
    have : a ≠ p := fun z => by subst z; exact h.dst i n a m q e e1
    exact c1.grow le (fun g => by rw [upd_ne this]; exact c1.f g) (Same.refl H)
  · obtain ⟨hj, q1⟩ := key j m1 q1
    exact h.dst j n a m1 q1 e1 e2
/-- a new object of the store -/
theorem Rel.push (h : Rel K Z F μ c σ H) {m : Cell} (hp : H p = some o) (fp : F p = none) (zp : Z p = none) (no : ∀ (j : Nat) (m : Cell), c.r[j]? = some (.own m) → σ[j]? ≠ some (some (.ref p))) (nm : ∀ (n : Nat), μ[n]? ≠ some p)
    (r : CellO K F (μ ++ [p]) o m) : Rel K Z F (μ ++ [p]) ⟨c.r, c.S ++ [m]⟩ σ H ∧ Le F μ F (μ ++ [p]) := by
  have get : ∀ (n : Nat) (a : Addr), (μ ++ [p])[n]? = some a → (n < μ.length ∧ μ[n]? = some a) ∨ (n = μ.length ∧ a = p) := fun n a e => by
    rw [List.getElem?_append] at e
    split at e
    · exact .inl ⟨by assumption, e⟩
    · have hn : n - μ.length = 0 := by
        have := (List.getElem?_eq_some_iff.mp e).1
        simp at this; omega
      rw [hn] at e
      simp at e
      exact .inr ⟨by omega, e.symm⟩
  have le : Le F μ F (μ ++ [p]) := ⟨Same.refl F, fun n a e => by
    rw [List.getElem?_append_left (List.getElem?_eq_some_iff.mp e).1]; exact e⟩
  refine ⟨{ ex := h.ex, exz := h.exz, fz := h.fz, len := h.len, slot := fun i x e => (let ⟨v, e1, e2⟩ := h.slot i x e; ⟨v, e1, e2.mono le⟩), own := fun i m q => (let ⟨a, e1, e2, e3⟩ := h.own i m q; ⟨a, e1, e2.grow le e2.f (Same.refl H), e3⟩), dis := h.dis, lm := by simp [h.lm], sto := fun n a m1 e1 e2 => ?_, dst := fun i n a m1 q e1 e2 => ?_, ndm := fun n k a e1 e2 => ?_ }, le⟩
  · rcases get n a e1 with ⟨hl, e1⟩ | ⟨hn, ha⟩
    · have e2' : c.S[n]? = some m1 := by
        rw [List.getElem?_append_left (by rw [← h.lm]; exact hl)] at e2; exact e2
      have c1 := h.sto n a m1 e1 e2'
      exact c1.grow le c1.f (Same.refl H)
    · subst hn ha
      have e2' : m = m1 := by
        have e2 : (c.S ++ [m])[μ.length]? = some m1 := e2
        rw [h.lm, List.getElem?_append_right (Nat.le_refl _)] at e2
        simpa using e2
      subst e2'
      exact ⟨zp, fun _ => fp, o, hp, r⟩
  · rcases get n a e2 with ⟨_, e2⟩ | ⟨_, ha⟩
    · exact h.dst i n a m1 q e1 e2
    · subst ha
      exact no i m1 q e1
  · rcases get n a e1 with ⟨_, e3⟩ | ⟨hn, ha⟩ <;> rcases get k a e2 with ⟨_, e4⟩ | ⟨hk, hb⟩
    · exact h.ndm n k a e3 e4
    · subst hb; exact absurd e3 (nm n)
    · subst ha; exact absurd e4 (nm k)
    · omega
/-- an object of the store is written -/
theorem Rel.put (h : Rel K Z F μ c σ H) {n : Nat} {m m' : Cell} (q : c.S[n]? = some m) (hg : m ≠ .gone) (e : μ[n]? = some p) (r : CellO K F μ o m') :
    Rel K Z F μ ⟨c.r, c.S.set n m'⟩ σ (upd H p o) := by
  have cp := h.sto n p m e q
  have hl : n < c.S.length := (List.getElem?_eq_some_iff.mp q).1
  refine { ex := fun b x eb => ?_, exz := fun b x eb => ?_, fz := h.fz, len := h.len, slot := h.slot, own := fun j m1 q1 => ?_, dis := h.dis, lm := by simpa using h.lm, sto := fun k a m1 e1 e2 => ?_, dst := h.dst, ndm := h.ndm }
  · have : b ≠ p := fun z => by subst z; rw [cp.f hg] at eb; cases eb
    rw [upd_ne this]; exact h.ex b x eb
  · have : b ≠ p := fun z => by subst z; rw [cp.z] at eb; cases eb
    rw [upd_ne this]; exact h.exz b x eb
  · obtain ⟨a, e1, c1, g1⟩ := h.own j m1 q1
    have : a ≠ p := fun z => by subst z; exact h.dst j n a m1 q1 e1 e
    exact ⟨a, e1, ⟨c1.z, c1.f, let ⟨u, e2, e3⟩ := c1.o; ⟨u, by rw [upd_ne this]; exact e2, e3⟩⟩, g1⟩
  · by_cases hk : k = n
    · subst hk
      rw [e] at e1; cases e1
      have e2 : (c.S.set k m')[k]? = some m1 := e2
      rw [List.getElem?_set_self hl] at e2
      cases e2
      exact ⟨cp.z, fun _ => cp.f hg, o, upd_same, r⟩
    · have e2 : (c.S.set n m')[k]? = some m1 := e2
      rw [List.getElem?_set_ne (Ne.symm hk)] at e2
      have c1 := h.sto k a m1 e1 e2
      have : a ≠ p := fun z => by subst z; exact hk (h.ndm k n a e1 e)
      exact ⟨c1.z, c1.f, let ⟨u, e2, e3⟩ := c1.o; ⟨u, by rw [upd_ne this]; exact e2, e3⟩⟩
end
end My

set_option Elab.async false
set_option linter.all false
set_option maxRecDepth 100000
set_option maxHeartbeats 4000000
/-! F2: what a piece of a text evaluates to, as a plain function of the image. -/
namespace My
open PySem L2

def M.bind {α β : Type} (m : M α) (f : α → M β) : M β := fun c => match m c with
  | .ok a c' => f a c'
  | .ex e c' => .ex e c'
  | .no => .no
def M.pure {α : Type} (a : α) : M α := fun c => .ok a c
def M.no {α : Type} : M α := fun _ => .no

/-- an operand: data, or the object of a slot -/
inductive O where
  | d (x : D)
  | sl (i : Nat)
inductive RepO (K : PySem.W.Frag) (F : Hp) (μ : List Addr) (σ : St) : V → O → Prop
  | d {v : V} {x : D} : Rep K F μ v x → RepO K F μ σ v (.d x)
  | sl {v : V} {i : Nat} : σ[i]? = some (some v) → RepO K F μ σ v (.sl i)
theorem RepO.mono {K : PySem.W.Frag} {F F' : Hp} {μ μ' : List Addr} {σ : St} {v : V} {o : O} (le : Le F μ F' μ') (h : RepO K F μ σ v o) : RepO K F' μ' σ v o := by
  cases h with
  | d h => exact .d (h.mono le)
  | sl h => exact .sl h
inductive RepX (K : PySem.W.Frag) (F : Hp) (μ : List Addr) : Value → Option Addr → Exn → Prop
  | none {cls : Value} : RepX K F μ cls none ⟨cls, none⟩
  | some {cls : Value} {d : Addr} {f : Str} {v : V} {x : D} : F d = some (.xd [(f, v)]) → Rep K F μ v x → RepX K F μ cls (some d) ⟨cls, some (f, x)⟩

/-- what is wanted behind an expression -/
def Post (K : PySem.W.Frag) (Z F : Hp) (μ : List Addr) (σ : St) (W : WX) {α : Type} (r : R α) (P : α → Stt → Hp → List Addr → Hp → Prop) : Prop := match r with
  | .ok a c => ∀ F' μ' H', Le F μ F' μ' → Rel K Z F' μ' c σ H' → P a c F' μ' H'
  | .ex e c => ∀ cls od F' μ' H', Le F μ F' μ' → Rel K Z F' μ' c σ H' → RepX K F' μ' cls od e → W cls od σ H'
  | .no => False
section
variable {K : PySem.W.Frag} {Z F F' : Hp} {μ μ' : List Addr} {σ : St} {W : WX} {α β : Type}
theorem Post.le {r : R α} {P : α → Stt → Hp → List Addr → Hp → Prop} (le : Le F μ F' μ') (h : Post K Z F μ σ W r P) : Post K Z F' μ' σ W r P := by
  cases r with
  | ok a c => exact fun F2 μ2 H2 l r => h F2 μ2 H2 (le.trans l) r
  | ex e c => exact fun cls od F2 μ2 H2 l r x => h cls od F2 μ2 H2 (le.trans l) r x
  | no => exact h
theorem Post.imp {r : R α} {P P' : α → Stt → Hp → List Addr → Hp → Prop} (h : Post K Z F μ σ W r P) (hp : ∀ a c F' μ' H', Le F μ F' μ' → Rel K Z F' μ' c σ H' → P a c F' μ' H' → P' a c F' μ' H') : Post K Z F μ σ W r P' := by
  cases r with
  | ok a c => exact fun F2 μ2 H2 l r => hp a c F2 μ2 H2 l r (h F2 μ2 H2 l r)
  | ex e c => exact h
  | no => exact h
/-- behind the first of two -/
theorem Post.bind {m : M α} {f : α → M β} {c : Stt} {P : β → Stt → Hp → List Addr → Hp → Prop} (h : Post K Z F μ σ W (M.bind m f c) P) :
    Post K Z F μ σ W (m c) (fun a c' F' μ' H' => Post K Z F' μ' σ W (f a c') P) := by
  unfold M.bind at h
  cases e : m c with
  | ok a c' => rw [e] at h; exact fun F2 μ2 H2 l r => Post.le l h
  | ex x c' => rw [e] at h; exact h
  | no => rw [e] at h; exact h
end

def EvE (K : PySem.W.Frag) (W : WX) (te : TE) (de : M O) : Prop := ∀ (Z F : Hp) (μ : List Addr) (c : Stt) (σ : St) (H : Hp) (Q : VK), Rel K Z F μ c σ H →
  Post K Z F μ σ W (de c) (fun o _ F' μ' H' => ∀ v, RepO K F' μ' σ v o → Q v H') → te σ H Q
def EvD (K : PySem.W.Frag) (W : WX) (te : TE) (de : M D) : Prop := ∀ (Z F : Hp) (μ : List Addr) (c : Stt) (σ : St) (H : Hp) (Q : VK), Rel K Z F μ c σ H →
  Post K Z F μ σ W (de c) (fun x _ F' μ' H' => ∀ v, Rep K F' μ' v x → Q v H') → te σ H Q
/-- nobody's object -/
structure Nob (Z F : Hp) (μ : List Addr) (c : Stt) (σ : St) (p : Addr) : Prop where
  f : F p = none
  z : Z p = none
  no : ∀ (i : Nat) (m : Cell), c.r[i]? = some (.own m) → σ[i]? ≠ some (some (.ref p))
  nm : ∀ (k : Nat), μ[k]? ≠ some p
/-- a new list that is nobody's -/
def EvN (K : PySem.W.Frag) (W : WX) (te : TE) (dn : M (List D)) : Prop := ∀ (Z F : Hp) (μ : List Addr) (c : Stt) (σ : St) (H : Hp) (Q : VK), Rel K Z F μ c σ H →
  Post K Z F μ σ W (dn c) (fun ds c' F' μ' H' => ∀ p vs, H' p = some (.lst vs) → Nob Z F' μ' c' σ p → Reps K F' μ' vs ds → Q (.ref p) H') → te σ H Q
def EvT (K : PySem.W.Frag) (W : WX) (tt : TT) (dt : M Bool) : Prop := ∀ (Z F : Hp) (μ : List Addr) (c : Stt) (σ : St) (H : Hp) (Q : Bool → Hp → Prop), Rel K Z F μ c σ H →
  Post K Z F μ σ W (dt c) (fun b _ _ _ H' => Q b H') → tt σ H Q
def EvA (K : PySem.W.Frag) (W : WX) (ta : TA) (da : M (List D)) : Prop := ∀ (Z F : Hp) (μ : List Addr) (c : Stt) (σ : St) (H : Hp) (Q : List V → Hp → Prop), Rel K Z F μ c σ H →
  Post K Z F μ σ W (da c) (fun ds _ F' μ' H' => ∀ vs, Reps K F' μ' vs ds → Q vs H') → ta σ H Q

/-- a list's, a tuple's items -/
def seqD (c : Stt) : O → Option (List D)
  | .d (.lst ds) => some ds
  | .d (.scr ds) => some ds
  | .d (.tup ds) => some ds
  | .d (.loc n) => match c.S[n]? with
    | some (.lst ds) => some ds
    | _ => none
  | .sl i => match c.r[i]? with
    | some (.own (.lst ds)) => some ds
    | some (.d (.lst ds)) => some ds
    | _ => none
  | _ => none
section
variable {K : PySem.W.Frag} {Z F F' : Hp} {μ μ' : List Addr} {c : Stt} {σ : St} {H H' : Hp} {W : WX}
theorem Rel.nob {p : Addr} (h : Rel K Z F μ c σ H) (n : H p = none) : Nob Z F μ c σ p := ⟨h.freeF n, h.freeZ n, (h.nobody n).1, (h.nobody n).2⟩
theorem seq_at {v : V} {o : O} {ds : List D} (h : Rel K Z F μ c σ H) (r : RepO K F μ σ v o) (e : seqD c o = some ds) : ∃ a vs, v = .ref a ∧ (SqL K H a vs ∨ SqT K H a vs) ∧ Reps K F μ vs ds := by
  unfold seqD at e
  cases r with
  | d r =>
    cases r with
    | v x => cases e
    | tup hs r => cases e; exact ⟨_, _, rfl, .inr (Same.seqT h.ex hs), r⟩
    | lst hs r => cases e; exact ⟨_, _, rfl, .inl (.of (h.ex _ _ hs)), r⟩
    | scr hs r => cases e; exact ⟨_, _, rfl, .inl (h.ex.seq hs), r⟩
    | dct _ _ _ => cases e
    | ins _ _ _ => cases e
    | @loc n a hn =>
      dsimp only at e
      cases q : c.S[n]? with
      | none => rw [q] at e; cases e
      | some m =>
        rw [q] at e
        cases m with
        | lst es =>
          cases e
          obtain ⟨_, _, u, e1, e2⟩ := h.sto _ _ _ hn q
          cases e2 with
          | lst r => exact ⟨_, _, rfl, .inl (.of e1), r⟩
        | dct _ => cases e
        | ins _ _ => cases e
        | gone => cases e
  | @sl i hs =>
    dsimp only at e
    cases q : c.r[i]? with
    | none => rw [q] at e; cases e
    | some x =>
      rw [q] at e
      cases x with
      | no => cases e
      | d x =>
        cases x with
        | lst es =>
          cases e
          obtain ⟨v', e1, e2⟩ := h.slot i _ q
          rw [hs] at e1; cases e1
          cases e2 with
          | lst hh r => exact ⟨_, _, rfl, .inl (.of (h.ex _ _ hh)), r⟩
        | _ => cases e
      | own m =>
        cases m with
        | lst es =>
          cases e
          obtain ⟨a, e1, ⟨_, _, u, e2, e3⟩, _⟩ := h.own i _ q
          rw [hs] at e1; cases e1
          cases e3 with
          | lst r => exact ⟨_, _, rfl, .inl (.of e2), r⟩
        | _ => cases e
/-- a list that is tracked as a list -/
def lstD (c : Stt) : O → Option (List D)
  | .d (.lst ds) => some ds
  | .d (.loc n) => match c.S[n]? with
    | some (.lst ds) => some ds
    | _ => none
  | .sl i => match c.r[i]? with
    | some (.own (.lst ds)) => some ds
    | some (.d (.lst ds)) => some ds
    | _ => none
  | _ => none
theorem lst_at {v : V} {o : O} {ds : List D} (h : Rel K Z F μ c σ H) (r : RepO K F μ σ v o) (e : lstD c o = some ds) : ∃ a vs, v = .ref a ∧ H a = some (.lst vs) ∧ Reps K F μ vs ds := by
  unfold lstD at e
  cases r with
  | d r =>
    cases r with
    | v x => cases e
    | tup hs r => cases e
    | lst hs r => cases e; exact ⟨_, _, rfl, h.ex _ _ hs, r⟩
    | scr hs r => cases e
    | dct _ _ _ => cases e
    | ins _ _ _ => cases e
    | @loc n a hn =>
      dsimp only at e
      cases q : c.S[n]? with
      | none => rw [q] at e; cases e
      | some m =>
        rw [q] at e
        cases m with
        | lst es =>
          cases e
          obtain ⟨_, _, u, e1, e2⟩ := h.sto _ _ _ hn q
          cases e2 with
          | lst r => exact ⟨_, _, rfl, e1, r⟩
        | _ => cases e
  | @sl i hs =>
    dsimp only at e
    cases q : c.r[i]? with
    | none => rw [q] at e; cases e
    | some x =>
      rw [q] at e
      cases x with
      | no => cases e
      | d x =>
        cases x with
        | lst es =>
          cases e
          obtain ⟨v', e1, e2⟩ := h.slot i _ q
          rw [hs] at e1; cases e1
          cases e2 with
          | lst hh r => exact ⟨_, _, rfl, h.ex _ _ hh, r⟩
        | _ => cases e
      | own m =>
        cases m with
        | lst es =>
          cases e
          obtain ⟨a, e1, ⟨_, _, u, e2, e3⟩, _⟩ := h.own i _ q
          rw [hs] at e1; cases e1
          cases e3 with
          | lst r => exact ⟨_, _, rfl, e2, r⟩
        | _ => cases e
/-- a tuple's items -/
def tupD : O → Option (List D)
  | .d (.tup ds) => some ds
  | _ => none
theorem tup_at {v : V} {o : O} {ds : List D} (h : Rel K Z F μ c σ H) (r : RepO K F μ σ v o) (e : tupD o = some ds) : ∃ a vs, v = .ref a ∧ SqT K H a vs ∧ Reps K F μ vs ds := by
  unfold tupD at e
  cases r with
  | d r =>
    cases r with
    | tup hs r => cases e; exact ⟨_, _, rfl, Same.seqT h.ex hs, r⟩
    | _ => cases e
  | sl hs => cases e

/-! ### the object of a slot stands for good -/
def frz : O → M D
  | .d x => fun c => .ok x c
  | .sl i => fun c => match c.r[i]? with
    | some (.own (.lst ds)) => .ok (.lst ds) ⟨c.r.set i (.d (.lst ds)), c.S⟩
    | some (.own (.dct ds)) => .ok (.dct ds) ⟨c.r.set i (.d (.dct ds)), c.S⟩
    | some (.own (.ins C ds)) => .ok (.ins C ds) ⟨c.r.set i (.d (.ins C ds)), c.S⟩
    | some (.d x) => .ok x c
    | _ => .no
theorem frz_ok {v : V} {o : O} {P : D → Stt → Hp → List Addr → Hp → Prop} (h : Rel K Z F μ c σ H) (r : RepO K F μ σ v o) (p : Post K Z F μ σ W (frz o c) P) :
    ∃ x c' F' , Le F μ F' μ ∧ Rel K Z F' μ c' σ H ∧ Rep K F' μ v x ∧ P x c' F' μ H := by
  cases r with
  | d r => exact ⟨_, _, F, Le.refl F μ, h, r, p F μ H (Le.refl F μ) h⟩
  | @sl i hs =>
    unfold frz at p
    dsimp only at p
    cases q : c.r[i]? with
    | none => rw [q] at p; exact p.elim
    | some x =>
      rw [q] at p
      cases x with
      | no => exact p.elim
      | d x =>
        obtain ⟨v', e1, e2⟩ := h.slot i _ q
        rw [hs] at e1; cases e1
        exact ⟨_, _, F, Le.refl F μ, h, e2, p F μ H (Le.refl F μ) h⟩
      | own m =>
        obtain ⟨a, e1, ⟨_, hf, u, e2, e3⟩, hg⟩ := h.own i _ q
        rw [hs] at e1; cases e1
        have le : Le F μ (upd F a u) μ := ⟨same_new (hf hg), fun _ _ h => h⟩
        cases e3 with
        | lst r =>
          have r' : Rep K (upd F a (.lst _)) μ (.ref a) (.lst _) := .lst upd_same (r.mono le)
          obtain ⟨h1, l1⟩ := h.freeze q hs e2 r'
          exact ⟨_, _, _, l1, h1, r', p _ _ _ l1 h1⟩
        | dct k r =>
          have r' : Rep K (upd F a (.dK _)) μ (.ref a) (.dct _) := .dct upd_same k (r.mono le)
          obtain ⟨h1, l1⟩ := h.freeze q hs e2 r'
          exact ⟨_, _, _, l1, h1, r', p _ _ _ l1 h1⟩
        | ins k r =>
          have r' : Rep K (upd F a (.ins _ _ _)) μ (.ref a) (.ins _ _) := .ins upd_same k (r.mono le)
          obtain ⟨h1, l1⟩ := h.freeze q hs e2 r'
          exact ⟨_, _, _, l1, h1, r', p _ _ _ l1 h1⟩
        | gone => exact p.elim
def dD (m : M O) : M D := M.bind m frz
theorem EvE.d {te : TE} {de : M O} (h : EvE K W te de) : EvD K W te (dD de) := fun Z F μ c σ H Q R p =>
  h Z F μ c σ H Q R (p.bind.imp fun o c' F' μ' H' le R' q v r => by
    obtain ⟨x, c2, F2, le2, R2, r2, k⟩ := frz_ok R' r q
    exact k v r2)
def okD (m : M D) : M O := M.bind m fun x => M.pure (.d x)
theorem EvD.e {te : TE} {de : M D} (h : EvD K W te de) : EvE K W te (okD de) := fun Z F μ c σ H Q R p =>
  h Z F μ c σ H Q R (p.bind.imp fun x c' F' μ' H' le R' q v r => q F' μ' H' (Le.refl _ _) R' v (.d r))
def okN (m : M (List D)) : M O := M.bind m fun ds => M.pure (.d (.lst ds))
theorem EvN.e {te : TE} {dn : M (List D)} (h : EvN K W te dn) : EvE K W te (okN dn) := fun Z F μ c σ H Q R p =>
  h Z F μ c σ H Q R (p.bind.imp fun ds c' F' μ' H' le R' q a vs hp n r => by
    obtain ⟨R2, l2⟩ := R'.fix hp n.f n.z n.no (fun k m e _ => absurd e (n.nm k))
    exact q _ _ _ l2 R2 (.ref a) (.d (.lst upd_same (r.mono l2))))
end
end My

set_option Elab.async false
set_option linter.all false
set_option maxRecDepth 100000
set_option maxHeartbeats 4000000
/-! F3: the rules for expressions. -/
namespace My
open PySem L2

structure ED (X : Cx) (W : WX) (e : Expr) (t : TE) (d : M O) : Prop where
  pe : PE X e t
  ev : EvE X.K W t d
structure DD (X : Cx) (W : WX) (e : Expr) (t : TE) (d : M D) : Prop where
  pe : PE X e t
  ev : EvD X.K W t d
structure EN (X : Cx) (W : WX) (e : Expr) (t : TE) (d : M (List D)) : Prop where
  pe : PE X e t
  ev : EvN X.K W t d
structure TD (X : Cx) (W : WX) (e : Expr) (t : TT) (d : M Bool) : Prop where
  pt : PT X e t
  ev : EvT X.K W t d
structure WD (X : Cx) (W : WX) (e : Expr) (t : TT) (d : M Bool) : Prop where
  pw : PW X e t
  ev : EvT X.K W t d
structure AD (X : Cx) (W : WX) (es : List Expr) (t : TA) (d : M (List D)) : Prop where
  pa : PA X es t
  ev : EvA X.K W t d

section
variable {X : Cx} {W : WX} {a b : Expr} {t ta tb : TE} {pos : Pos}
theorem ED.d {e : Expr} {d : M O} (h : ED X W e t d) : DD X W e t (dD d) := ⟨h.pe, h.ev.d⟩
theorem DD.e {e : Expr} {d : M D} (h : DD X W e t d) : ED X W e t (okD d) := ⟨h.pe, h.ev.e⟩
theorem EN.e {e : Expr} {d : M (List D)} (h : EN X W e t d) : ED X W e t (okN d) := ⟨h.pe, h.ev.e⟩

/-! ### names and constants -/
def dVar (i : Nat) : M O := fun c => match c.r[i]? with
  | some (.d x) => .ok (.d x) c
  | some (.own _) => .ok (.sl i) c
  | _ => .no
theorem ed_var (i : Nat) {x : Str} (hN : X.N[i]? = some x := by rfl) (hv : Vis X.env.scope x := by first | exact Or.inl rfl | exact Or.inr (Or.inl rfl) | exact Or.inr (Or.inr rfl)) (hd : (x == ("__debug__" : Str)) = false := by decide)
    (hcd : (x == ("__classdict__" : Str)) = false := by decide) : ED X W (.Name x pos) (tVar i) (dVar i) := by
  refine ⟨pe_var hN hv hd hcd, fun Z F μ c σ H Q R p => ?_⟩
  unfold dVar at p
  cases q : c.r[i]? with
  | none => rw [q] at p; exact p.elim
  | some x =>
    rw [q] at p
    cases x with
    | no => exact p.elim
    | d x =>
      obtain ⟨v, e1, e2⟩ := R.slot i x q
      exact ⟨v, e1, p F μ H (Le.refl _ _) R v (.d e2)⟩
    | own m =>
      obtain ⟨v, e1, _⟩ := R.own i m q
      exact ⟨.ref v, e1, p F μ H (Le.refl _ _) R _ (.sl e1)⟩
def dC (v : V) : M O := fun c => .ok (.d (.v v)) c
theorem ev_c {K : PySem.W.Frag} {v : V} : EvE K W (tC v) (dC v) := fun Z F μ c σ H Q R p => p F μ H (Le.refl _ _) R v (.d (.v v))
theorem ed_int {i : Int} {j : Nat} : ED X W (.Constant (.int i) j pos) (tC (.int i)) (dC (.int i)) := ⟨pe_int, ev_c⟩
theorem ed_bl {b : Bool} {j : Nat} : ED X W (.Constant (.bool b) j pos) (tC (.bl b)) (dC (.bl b)) := ⟨pe_bl, ev_c⟩
theorem ed_non {j : Nat} : ED X W (.Constant .none j pos) (tC .non) (dC .non) := ⟨pe_non, ev_c⟩
theorem ed_str {x : Str} {j : Nat} : ED X W (.Constant (.str x) j pos) (tC (.str x)) (dC (.str x)) := ⟨pe_str, ev_c⟩
/-- a module's constant -/
def dK (x : D) : M O := fun c => .ok (.d x) c
theorem ed_glob {x : Str} {v : V} {u : Value} {d : D} (hg : Gl X x) (hm : X.mg x = some u) (r : RelV v u) (hd : ∀ F μ, Rep X.K F μ v d) (hdb : (x == ("__debug__" : Str)) = false := by decide) : ED X W (.Name x pos) (tC v) (dK d) :=
  ⟨pe_glob hg hm r hdb, fun Z F μ c σ H Q R p => p F μ H (Le.refl _ _) R v (.d (hd F μ))⟩
theorem ed_bltn {x : Str} {v : V} {u : Value} (hg : Gl X x) (hm : X.mg x = none) (hv : bootBuiltins x = some u) (r : RelV v u) (hn : x ≠ "__name__" := by decide) (hdb : (x == ("__debug__" : Str)) = false := by decide) : ED X W (.Name x pos) (tC v) (dC v) :=
  ⟨pe_bltn hg hm hv r hn hdb, ev_c⟩

/-! ### operations of two operands -/
def dOp (g : O → O → M D) (da db : M O) : M D := M.bind da fun x => M.bind db fun y => g x y
def R2S (K : PySem.W.Frag) (W : WX) (r : R2) (g : O → O → M D) : Prop := ∀ (Z F : Hp) (μ : List Addr) (c : Stt) (σ : St) (H : Hp) (Q : VK) (x y : V) (a b : O), Rel K Z F μ c σ H → RepO K F μ σ x a → RepO K F μ σ y b →
  Post K Z F μ σ W (g a b c) (fun d _ F' μ' H' => ∀ v, Rep K F' μ' v d → Q v H') → r x y H Q
theorem ev_op {K : PySem.W.Frag} {r : R2} {g : O → O → M D} {da db : M O} (hr : R2S K W r g) (ha : EvE K W ta da) (hb : EvE K W tb db) : EvD K W (tOp r ta tb) (dOp g da db) := fun Z F μ c σ H Q R p =>
  ha Z F μ c σ H _ R (p.bind.imp fun o c1 F1 μ1 H1 l1 R1 p1 v1 r1 =>
    hb Z F1 μ1 c1 σ H1 _ R1 (p1.bind.imp fun o2 c2 F2 μ2 H2 l2 R2 p2 v2 r2 => hr Z F2 μ2 c2 σ H2 Q v1 v2 o o2 R2 (r1.mono l2) r2 p2))
theorem dd_op {op : Operator} {r : R2} {g : O → O → M D} {da db : M O} (ho : OpR X (binaryOp op) r) (hr : R2S X.K W r g) (ha : ED X W a ta da) (hb : ED X W b tb db) : DD X W (.BinOp a op b pos) (tOp r ta tb) (dOp g da db) :=
  ⟨pe_op ho ha.pe hb.pe, ev_op hr ha.ev hb.ev⟩
def gOr (g g' : O → O → M D) : O → O → M D := fun a b c => match g a b c with
  | .no => g' a b c
  | x => x
theorem R2S.or {K : PySem.W.Frag} {r r' : R2} {g g' : O → O → M D} (h : R2S K W r g) (h' : R2S K W r' g') : R2S K W (fun x y H Q => r x y H Q ∨ r' x y H Q) (gOr g g') := fun Z F μ c σ H Q x y a b R rx ry p => by
  unfold gOr at p
  cases e : g a b c with
  | no => rw [e] at p; exact .inr (h' Z F μ c σ H Q x y a b R rx ry p)
  | ok _ _ => rw [e] at p; exact .inl (h Z F μ c σ H Q x y a b R rx ry (by rw [e]; exact p))
  | ex _ _ => rw [e] at p; exact .inl (h Z F μ c σ H Q x y a b R rx ry (by rw [e]; exact p))
/-- two ints -/
def gI (f : Int → Int → Option V) : O → O → M D := fun a b c => match a, b with
  | .d (.v (.int i)), .d (.v (.int j)) => match f i j with
    | some v => .ok (.v v) c
    | none => .no
  | _, _ => .no
theorem r2_int {K : PySem.W.Frag} {r : R2} {f : Int → Int → Option V} (h : ∀ i j v H Q, f i j = some v → Q v H → r (.int i) (.int j) H Q) : R2S K W r (gI f) := fun Z F μ c σ H Q x y a b R rx ry p => by
  unfold gI at p
  split at p
  · next i j =>
    cases rx with
    | d rx =>
      cases rx
      cases ry with
      | d ry =>
        cases ry
        cases e : f i j with
        | none => rw [e] at p; exact p.elim
        | some v => rw [e] at p; exact h i j v H Q e (p F μ H (Le.refl _ _) R v (.v v))
  · exact p.elim
/-- two texts -/
def gS (f : Str → Str → Option V) : O → O → M D := fun a b c => match a, b with
  | .d (.v (.str i)), .d (.v (.str j)) => match f i j with
    | some v => .ok (.v v) c
    | none => .no
  | _, _ => .no
theorem r2_str {K : PySem.W.Frag} {r : R2} {f : Str → Str → Option V} (h : ∀ i j v H Q, f i j = some v → Q v H → r (.str i) (.str j) H Q) : R2S K W r (gS f) := fun Z F μ c σ H Q x y a b R rx ry p => by
  unfold gS at p
  split at p
  · next i j =>
    cases rx with
    | d rx =>
      cases rx
      cases ry with
      | d ry =>
        cases ry
        cases e : f i j with
        | none => rw [e] at p; exact p.elim
        | some v => rw [e] at p; exact h i j v H Q e (p F μ H (Le.refl _ _) R v (.v v))
  · exact p.elim
def gCat : O → O → M D := fun a b c => match lstD c a, lstD c b with
  | some ds, some es => if ds.length + es.length ≤ 1000000 then .ok (.lst (ds ++ es)) c else .no
  | _, _ => .no
theorem small6 {n : Nat} (h : n ≤ 1000000) : n ≤ sizeLine := Nat.le_trans h (by decide)
theorem r2_cat {K : PySem.W.Frag} : R2S K W rCat gCat := fun Z F μ c σ H Q x y a b R rx ry p => by
  unfold gCat at p
  split at p
  · next ds es e1 e2 =>
    obtain ⟨l, vs, rfl, h1, q1⟩ := lst_at R rx e1
    obtain ⟨m, ws, rfl, h2, q2⟩ := lst_at R ry e2
    split at p
    · next hz =>
      refine ⟨l, m, vs, ws, rfl, rfl, h1, h2, small6 (by rw [q1.length, q2.length]; exact hz), fun t ht => ?_⟩
      obtain ⟨R2, l2⟩ := R.new (o := .lst (vs ++ ws)) ht
      exact p _ _ _ l2 R2 _ (.lst upd_same ((q1.append q2).mono l2))
    · exact p.elim
  · exact p.elim
def gCatT : O → O → M D := fun a b c => match tupD a, tupD b with
  | some [], some [] => .ok (.tup []) c
  | some (d :: ds), some es => if (d :: ds).length + es.length ≤ 1000000 then .ok (.tup ((d :: ds) ++ es)) c else .no
  | _, _ => .no
def gAdd : O → O → M D := gOr (gI fun i j => some (.int (i + j))) (gOr (gS fun x y => if x.length + y.length ≤ 1000000 then some (.str (x ++ y)) else none) gCat)
def rAddA : R2 := fun x y H Q => rI0 (fun i j => .int (i + j)) x y H Q ∨ ((∃ i j, x = .str i ∧ y = .str j ∧ i.length + j.length ≤ sizeLine ∧ Q (.str (i ++ j)) H) ∨ rCat x y H Q)
theorem dd_add {da db : M O} (ha : ED X W a ta da) (hb : ED X W b tb db) : DD X W (.BinOp a .Add b pos) (tOp rAddA ta tb) (dOp gAdd da db) :=
  dd_op (OpR.or op_add (OpR.or op_add_str op_cat)) (R2S.or (r2_int fun i j v H Q e q => ⟨i, j, rfl, rfl, by cases e; exact q⟩) (R2S.or (r2_str fun i j v H Q e q => by
    split at e
    · next hz => cases e; exact ⟨i, j, rfl, rfl, small6 hz, q⟩
    · cases e) r2_cat)) ha hb
def gSubI : O → O → M D := gI fun i j => some (.int (i - j))
def rSubA : R2 := rI0 fun i j => .int (i - j)
theorem dd_sub {da db : M O} (ha : ED X W a ta da) (hb : ED X W b tb db) : DD X W (.BinOp a .Sub b pos) (tOp rSubA ta tb) (dOp gSubI da db) :=
  dd_op op_sub (r2_int fun i j v H Q e q => ⟨i, j, rfl, rfl, by cases e; exact q⟩) ha hb
/-- a product that has room -/
def mulOk (i j : Int) : Prop := CMul i j ∨ CMulW i j
instance (i j : Int) : Decidable (mulOk i j) := by
  unfold mulOk CMul CMulW
  infer_instance
theorem op_mulA : OpR X (binaryOp .Mult) (rI mulOk fun i j => .int (i * j)) := opI fun _ _ _ _ _ _ _ hc q => PyProof.Rows.mul_int q (by
  rcases hc with h | h
  · exact h.ok
  · exact h.ok)
def gRep : O → O → M D := fun a b c => match lstD c a, b with
  | some ds, .d (.v (.int k)) => if -(2 ^ 63) ≤ k ∧ k < 2 ^ 63 ∧ ds.length * k.toNat ≤ 1000000 then .ok (.lst (List.replicate k.toNat ds).flatten) c else .no
  | _, _ => .no
theorem r2_rep {K : PySem.W.Frag} : R2S K W rRep gRep := fun Z F μ c σ H Q x y a b R rx ry p => by
  unfold gRep at p
  split at p
  · next ds k e1 =>
    obtain ⟨l, vs, rfl, h1, q1⟩ := lst_at R rx e1
    cases ry with
    | d ry =>
      cases ry
      split at p
      · next hz =>
        refine ⟨l, k, vs, rfl, rfl, h1, hz.1, hz.2.1, small6 (by rw [q1.length]; exact hz.2.2), fun t ht => ?_⟩
        obtain ⟨R2, l2⟩ := R.new (o := .lst (List.replicate k.toNat vs).flatten) ht
        exact p _ _ _ l2 R2 _ (.lst upd_same ((q1.rep k.toNat).mono l2))
      · exact p.elim
  · exact p.elim
def gMul : O → O → M D := gOr (gI fun i j => if mulOk i j then some (.int (i * j)) else none) gRep
def rMulA : R2 := fun x y H Q => rI mulOk (fun i j => .int (i * j)) x y H Q ∨ rRep x y H Q
theorem dd_mul {da db : M O} (ha : ED X W a ta da) (hb : ED X W b tb db) : DD X W (.BinOp a .Mult b pos) (tOp rMulA ta tb) (dOp gMul da db) :=
  dd_op (OpR.or op_mulA op_rep) (R2S.or (r2_int fun i j v H Q e q => by
    split at e
    · next hz => cases e; exact ⟨i, j, rfl, rfl, hz, q⟩
    · cases e) r2_rep) ha hb
/-- a divisor that is served -/
def divOk (j : Int) : Prop := j ≠ 0 ∧ j.natAbs.log2 < 9000
instance (j : Int) : Decidable (divOk j) := by
  unfold divOk
  infer_instance
theorem op_fdivA : OpR X (binaryOp .FloorDiv) (rI (fun _ j => divOk j) fun i j => .int (i.fdiv j)) := opI fun i j _ _ _ _ _ hc q =>
  PyProof.Rows.floordiv_int hc.1 q (.inl (PyProof.noPylong_of_log2 hc.2))
def gDiv : O → O → M D := gI fun i j => if divOk j then some (.int (i.fdiv j)) else none
def rDivA : R2 := rI (fun _ j => divOk j) fun i j => .int (i.fdiv j)
theorem dd_div {da db : M O} (ha : ED X W a ta da) (hb : ED X W b tb db) : DD X W (.BinOp a .FloorDiv b pos) (tOp rDivA ta tb) (dOp gDiv da db) :=
  dd_op op_fdivA (r2_int fun i j v H Q e q => by
    split at e
    · next hz => cases e; exact ⟨i, j, rfl, rfl, hz, q⟩
    · cases e) ha hb
def gMod : O → O → M D := gI fun i j => if j ≠ 0 then some (.int (i.fmod j)) else none
def rModA : R2 := rI (fun _ j => j ≠ 0) fun i j => .int (i.fmod j)
theorem dd_mod {da db : M O} (ha : ED X W a ta da) (hb : ED X W b tb db) : DD X W (.BinOp a .Mod b pos) (tOp rModA ta tb) (dOp gMod da db) :=
  dd_op op_modN (r2_int fun i j v H Q e q => by
    split at e
    · next hz => cases e; exact ⟨i, j, rfl, rfl, hz, q⟩
    · cases e) ha hb
instance (i j : Int) : Decidable (CPow i j) := by
  unfold CPow
  infer_instance
def gPow : O → O → M D := gI fun i j => if CPow i j then some (.int (i ^ j.toNat)) else none
def rPowA : R2 := rI CPow fun i j => .int (i ^ j.toNat)
theorem dd_pow {da db : M O} (ha : ED X W a ta da) (hb : ED X W b tb db) : DD X W (.BinOp a .Pow b pos) (tOp rPowA ta tb) (dOp gPow da db) :=
  dd_op op_pow (r2_int fun i j v H Q e q => by
    split at e
    · next hz => cases e; exact ⟨i, j, rfl, rfl, hz, q⟩
    · cases e) ha hb
/-- -a -/
def dNeg (da : M O) : M D := M.bind da fun a c => match a with
  | .d (.v (.int i)) => .ok (.v (.int (-i))) c
  | _ => .no
theorem dd_neg {da : M O} (ha : ED X W a ta da) : DD X W (.UnaryOp .USub a pos) (tUn (rU fun i => .int (-i)) ta) (dNeg da) := by
  refine ⟨pe_un un_neg ha.pe, fun Z F μ c σ H Q R p => ha.ev Z F μ c σ H _ R (p.bind.imp fun o c1 F1 μ1 H1 l1 R1 p1 v1 r1 => ?_)⟩
  split at p1
  · cases r1 with
    | d r => cases r; exact ⟨_, rfl, p1 F1 μ1 H1 (Le.refl _ _) R1 _ (.v _)⟩
  · exact p1.elim

/-! ### items, lengths -/
def gIx : O → O → M D := fun a b c => match b with
  | .d (.v (.int i)) => match a with
    | .d (.v (.str x)) => if x.length ≤ 1000000 then match atI x.cps.toList i with
        | some k => .ok (.v (.str ⟨#[k]⟩)) c
        | none => .no
      else .no
    | a => match seqD c a with
      | some ds => match atI ds i with
        | some d => .ok d c
        | none => .no
      | none => .no
  | _ => .no
theorem reps_atI {K : PySem.W.Frag} {F : Hp} {μ : List Addr} {vs : List V} {ds : List D} {i : Int} {d : D} (r : Reps K F μ vs ds) (e : atI ds i = some d) : ∃ v, atI vs i = some v ∧ Rep K F μ v d := by
  unfold atI at e ⊢
  rw [r.length]
  cases q : ixN ds.length i with
  | none => rw [q] at e; cases e
  | some j =>
    rw [q] at e
    exact r.get e
theorem r2_ix {K : PySem.W.Frag} : R2S K W (rIx K) gIx := fun Z F μ c σ H Q x y a b R rx ry p => by
  unfold gIx at p
  split at p
  · next i =>
    cases ry with
    | d ry =>
      cases ry
      split at p
      · next z =>
        cases rx with
        | d rx =>
          cases rx
          split at p
          · next hz =>
            split at p
            · next k hk => exact .inr (.inr ⟨z, i, k, rfl, rfl, small6 hz, hk, p F μ H (Le.refl _ _) R _ (.v _)⟩)
            · exact p.elim
          · exact p.elim
      · split at p
        · next ds hs =>
          split at p
          · next d hd =>
            obtain ⟨l, vs, rfl, h1, q1⟩ := seq_at R rx hs
            obtain ⟨v, hv, rv⟩ := reps_atI q1 hd
            rcases h1 with h1 | h1
            · exact .inl ⟨l, vs, i, v, rfl, rfl, h1, hv, p F μ H (Le.refl _ _) R _ rv⟩
            · exact .inr (.inl ⟨l, vs, i, v, rfl, rfl, h1, hv, p F μ H (Le.refl _ _) R _ rv⟩)
          · exact p.elim
        · exact p.elim
  · exact p.elim
theorem dd_ix {K : PySem.W.Frag} {da db : M O} (ha : ED X W a ta da) (hb : ED X W b tb db) (hs : PlainIx b) (hK : X.K = K := by rfl) : DD X W (.Subscript a b pos) (tOp (rIx K) ta tb) (dOp gIx da db) := by
  subst hK
  exact ⟨pe_ix ix_seq ha.pe hb.pe hs, ev_op r2_ix ha.ev hb.ev⟩
/-- a built-in of one operand -/
def C1S (K : PySem.W.Frag) (W : WX) (r : List V → Hp → VK → Prop) (g : O → M D) : Prop := ∀ (Z F : Hp) (μ : List Addr) (c : Stt) (σ : St) (H : Hp) (Q : VK) (x : V) (a : O), Rel K Z F μ c σ H → RepO K F μ σ x a →
  Post K Z F μ σ W (g a c) (fun d _ F' μ' H' => ∀ v, Rep K F' μ' v d → Q v H') → r [x] H Q
theorem ev_c1 {K : PySem.W.Frag} {r : List V → Hp → VK → Prop} {g : O → M D} {da : M O} (hr : C1S K W r g) (ha : EvE K W ta da) : EvD K W (tCB r (tCons ta tNil)) (M.bind da g) := fun Z F μ c σ H Q R p =>
  ha Z F μ c σ H _ R (p.bind.imp fun o c1 F1 μ1 H1 l1 R1 p1 v1 r1 => hr Z F1 μ1 c1 σ H1 Q v1 o R1 r1 p1)
/-- a built-in's rule: of the text's machine, of the image -/
structure B1 (X : Cx) (W : WX) (f : Value) (r : List V → Hp → VK → Prop) (g : O → M D) : Prop where
  c : CallR X f r
  g : C1S X.K W r g
theorem dd_b1 {id : String} {x : Str} {p : Pos} {r : List V → Hp → VK → Prop} {g : O → M D} {da : M O} (hc : B1 X W (.builtin id) r g) (hg : Gl X x) (hm : X.mg x = none) (hv : bootBuiltins x = some (.builtin id)) (ha : ED X W a ta da)
    (hs : starEach [a] X.env = (false, eval a X.env) :: starEach [] X.env := by rfl) (hn : x ≠ "__name__" := by decide) (hdb : (x == ("__debug__" : Str)) = false := by decide)
    (he : starEach [a] X.env = (false, eval a X.env) :: starEach [] X.env := by rfl) (hpl : (backTo pos (starEach [] X.env)).any (·.1) = false := by rfl) :
    DD X W (.Call (.Name x p) [a] [] pos) (tCB r (tCons ta tNil)) (M.bind da g) := ⟨pe_callB hc.c hg hm hv (pa_cons ha.pe pa_nil hs) hn hdb he hpl, ev_c1 hc.g ha.ev⟩
theorem dd_t1 {T : String} {x : Str} {p : Pos} {r : List V → Hp → VK → Prop} {g : O → M D} {da : M O} (hc : B1 X W (.type T) r g) (hg : Gl X x) (hm : X.mg x = none) (hv : bootBuiltins x = some (.type T)) (ha : ED X W a ta da)
    (hs : starEach [a] X.env = (false, eval a X.env) :: starEach [] X.env := by rfl) (hn : x ≠ "__name__" := by decide) (hdb : (x == ("__debug__" : Str)) = false := by decide)
    (he : starEach [a] X.env = (false, eval a X.env) :: starEach [] X.env := by rfl) (hpl : (backTo pos (starEach [] X.env)).any (·.1) = false := by rfl) :
    DD X W (.Call (.Name x p) [a] [] pos) (tCB r (tCons ta tNil)) (M.bind da g) := ⟨pe_callTy hc.c hg hm hv (pa_cons ha.pe pa_nil hs) hn hdb he hpl, ev_c1 hc.g ha.ev⟩
def gLen : O → M D := fun a c => match a with
  | .d (.v (.str x)) => if x.length ≤ 1000000 then .ok (.v (.int x.length)) c else .no
  | a => match seqD c a with
    | some ds => .ok (.v (.int ds.length)) c
    | none => .no
theorem c1_len {K : PySem.W.Frag} : C1S K W (fun xs H Q => ∃ x n, xs = [x] ∧ LenV K x H n ∧ Q (.int n) H) gLen := fun Z F μ c σ H Q x a R rx p => by
  unfold gLen at p
  split at p
  · next z =>
    cases rx with
    | d rx =>
      cases rx
      split at p
      · next hz => exact ⟨_, _, rfl, ⟨small6 hz, rfl⟩, p F μ H (Le.refl _ _) R _ (.v _)⟩
      · exact p.elim
  · split at p
    · next ds hs =>
      obtain ⟨l, vs, rfl, h1, q1⟩ := seq_at R rx hs
      refine ⟨_, ds.length, rfl, ?_, p F μ H (Le.refl _ _) R _ (.v _)⟩
      rcases h1 with h1 | h1
      · exact .inl ⟨vs, h1, q1.length.symm⟩
      · exact .inr ⟨vs, h1, q1.length.symm⟩
    · exact p.elim
def absZ (i : Int) : Int := if i < 0 then -i else i
def gAbs : O → M D := fun a c => match a with
  | .d (.v (.int i)) => .ok (.v (.int (absZ i))) c
  | _ => .no
theorem c1_abs {K : PySem.W.Frag} : C1S K W (fun xs H Q => ∃ i, xs = [.int i] ∧ Q (.int (if i < 0 then -i else i)) H) gAbs := fun Z F μ c σ H Q x a R rx p => by
  unfold gAbs at p
  split at p
  · cases rx with
    | d rx => cases rx; exact ⟨_, rfl, p F μ H (Le.refl _ _) R _ (.v _)⟩
  · exact p.elim
def gInt1 : O → M D := fun a c => match a with
  | .d (.v (.int i)) => .ok (.v (.int i)) c
  | .d (.v (.bl k)) => .ok (.v (.int (if k then 1 else 0))) c
  | _ => .no
theorem c1_int {K : PySem.W.Frag} : C1S K W (fun xs H Q => (∃ i, xs = [.int i] ∧ Q (.int i) H) ∨ ∃ k, xs = [.bl k] ∧ Q (.int (if k then 1 else 0)) H) gInt1 := fun Z F μ c σ H Q x a R rx p => by
  unfold gInt1 at p
  split at p
  · cases rx with
    | d rx => cases rx; exact .inl ⟨_, rfl, p F μ H (Le.refl _ _) R _ (.v _)⟩
  · cases rx with
    | d rx => cases rx; exact .inr ⟨_, rfl, p F μ H (Le.refl _ _) R _ (.v _)⟩
  · exact p.elim
def gStr1 : O → M D := fun a c => match a with
  | .d (.v (.int i)) => if i.natAbs.log2 < 1920 then .ok (.v (.str (toString i))) c else .no
  | _ => .no
theorem c1_str {K : PySem.W.Frag} : C1S K W (fun xs H Q => ∃ i, xs = [.int i] ∧ i.natAbs.log2 < 1920 ∧ Q (.str (toString i)) H) gStr1 := fun Z F μ c σ H Q x a R rx p => by
  unfold gStr1 at p
  split at p
  · split at p
    · next hz =>
      cases rx with
      | d rx => cases rx; exact ⟨_, rfl, hz, p F μ H (Le.refl _ _) R _ (.v _)⟩
    · exact p.elim
  · exact p.elim
def rLenA (K : PySem.W.Frag) : List V → Hp → VK → Prop := fun xs H Q => ∃ x n, xs = [x] ∧ LenV K x H n ∧ Q (.int n) H
theorem bLen {K : PySem.W.Frag} (hK : X.K = K := by rfl) : B1 X W (.builtin "len") (rLenA K) gLen := by
  subst hK
  exact ⟨call_len, c1_len⟩
def rAbsA : List V → Hp → VK → Prop := fun xs H Q => ∃ i, xs = [.int i] ∧ Q (.int (if i < 0 then -i else i)) H
theorem bAbs : B1 X W (.builtin "abs") rAbsA gAbs := ⟨call_abs, c1_abs⟩
def rIntA : List V → Hp → VK → Prop := fun xs H Q => (∃ i, xs = [.int i] ∧ Q (.int i) H) ∨ ∃ k, xs = [.bl k] ∧ Q (.int (if k then 1 else 0)) H
theorem bInt : B1 X W (.type "int") rIntA gInt1 := ⟨call_int1, c1_int⟩
def rStrA : List V → Hp → VK → Prop := fun xs H Q => ∃ i, xs = [.int i] ∧ i.natAbs.log2 < 1920 ∧ Q (.str (toString i)) H
theorem bStr : B1 X W (.type "str") rStrA gStr1 := ⟨call_str_int, c1_str⟩
end
end My

set_option Elab.async false
set_option linter.all false
set_option maxRecDepth 100000
set_option maxHeartbeats 4000000
/-! F4: comparisons, tests, displays, calls. -/
namespace My
open PySem L2

/-! ### == by data -/
mutual
def pyD : D → Option PyData
  | .v .non => some .none
  | .v (.bl b) => some (.bool b)
  | .v (.int i) => some (.int i)
  | .v (.str x) => some (.str x)
  | .tup ds => (pyDs ds).map .tuple
  | .lst ds => (pyDs ds).map .list
  | .scr ds => (pyDs ds).map .list
  | _ => none
def pyDs : List D → Option (List PyData)
  | [] => some []
  | d :: ds => match pyD d, pyDs ds with
    | some p, some ps => some (p :: ps)
    | _, _ => none
end
/-- an operand as data -/
def pyO (c : Stt) : O → Option PyData
  | .d (.loc n) => match c.S[n]? with
    | some (.lst ds) => (pyDs ds).map .list
    | _ => none
  | .d x => pyD x
  | .sl i => match c.r[i]? with
    | some (.own (.lst ds)) => (pyDs ds).map .list
    | some (.d (.lst ds)) => (pyDs ds).map .list
    | _ => none
section
variable {K : PySem.W.Frag} {Z F : Hp} {μ : List Addr} {c : Stt} {σ : St} {H : Hp} {W : WX}
mutual
theorem dp_of (ex : Same F H) : ∀ {d : D} {v : V} {p : PyData}, Rep K F μ v d → pyD d = some p → Dp K H v p
  | _, _, _, Rep.v x, e => by
    cases x <;> unfold pyD at e <;> cases e <;> constructor
  | _, _, _, .tup (ds := ds) h r, e => by
    unfold pyD at e
    cases q : pyDs ds with
    | none => rw [q] at e; cases e
    | some ps => rw [q] at e; cases e; exact .tup (Same.seqT ex h) (dps_of ex r q)
  | _, _, _, .lst (ds := ds) h r, e => by
    unfold pyD at e
    cases q : pyDs ds with
    | none => rw [q] at e; cases e
    | some ps => rw [q] at e; cases e; exact .lst (.of (ex _ _ h)) (dps_of ex r q)
  | _, _, _, .scr (ds := ds) h r, e => by
    unfold pyD at e
    cases q : pyDs ds with
    | none => rw [q] at e; cases e
    | some ps => rw [q] at e; cases e; exact .lst (ex.seq h) (dps_of ex r q)
  | _, _, _, .dct _ _ _, e => by unfold pyD at e; cases e
  | _, _, _, .ins _ _ _, e => by unfold pyD at e; cases e
  | _, _, _, .loc _, e => by unfold pyD at e; cases e
theorem dps_of (ex : Same F H) : ∀ {ds : List D} {vs : List V} {ps : List PyData}, Reps K F μ vs ds → pyDs ds = some ps → DpAll K H vs ps
  | _, _, _, .nil, e => by unfold pyDs at e; cases e; exact .nil
  | _, _, _, .cons (d := d) (ds := ds) h r, e => by
    unfold pyDs at e
    cases q : pyD d with
    | none => rw [q] at e; cases e
    | some p =>
      rw [q] at e
      cases q2 : pyDs ds with
      | none => rw [q2] at e; cases e
      | some ps => rw [q2] at e; cases e; exact .cons (dp_of ex h q) (dps_of ex r q2)
end
theorem dpO_of {o : O} {v : V} {p : PyData} (R : Rel K Z F μ c σ H) (r : RepO K F μ σ v o) (e : pyO c o = some p) : Dp K H v p := by
  have lists : ∀ {ds : List D}, lstD c o = some ds → (pyDs ds).map PyData.list = some p → Dp K H v p := fun {ds} h1 h2 => by
    obtain ⟨a, vs, rfl, h3, q⟩ := lst_at R r h1
    cases q2 : pyDs ds with
    | none => rw [q2] at h2; cases h2
    | some ps => rw [q2] at h2; cases h2; exact .lst (.of h3) (dps_of R.ex q q2)
  cases o with
  | d x =>
    cases r with
    | d r =>
      cases x with
      | loc n =>
        unfold pyO at e
        dsimp only at e
        split at e
        · next ds hs => exact lists (by unfold lstD; dsimp only; rw [hs]) e
        · cases e
      | _ => exact dp_of R.ex r e
  | sl i =>
    unfold pyO at e
    dsimp only at e
    split at e
    · next ds hs => exact lists (by unfold lstD; dsimp only; rw [hs]) e
    · next ds hs => exact lists (by unfold lstD; dsimp only; rw [hs]) e
    · cases e
mutual
theorem pyD_plain : ∀ {d : D} {p : PyData}, pyD d = some p → p.plain = true
  | .v x, p, e => by
    cases x <;> unfold pyD at e <;> cases e <;> rfl
  | .tup ds, p, e => by
    unfold pyD at e
    cases q : pyDs ds with
    | none => rw [q] at e; cases e
    | some ps =>
      rw [q] at e
      cases e
      show PyData.plain (.tuple ps) = true
      unfold PyData.plain
      exact pyDs_plain q
  | .lst ds, p, e => by
    unfold pyD at e
    cases q : pyDs ds with
    | none => rw [q] at e; cases e
    | some ps =>
      rw [q] at e
      cases e
      show PyData.plain (.list ps) = true
      unfold PyData.plain
      exact pyDs_plain q
  | .scr ds, p, e => by
    unfold pyD at e
    cases q : pyDs ds with
    | none => rw [q] at e; cases e
    | some ps =>
      rw [q] at e
      cases e
      show PyData.plain (.list ps) = true
      unfold PyData.plain
      exact pyDs_plain q
  | .dct _, _, e => by unfold pyD at e; cases e
  | .ins _ _, _, e => by unfold pyD at e; cases e
  | .loc _, _, e => by unfold pyD at e; cases e
theorem pyDs_plain : ∀ {ds : List D} {ps : List PyData}, pyDs ds = some ps → PyData.plainAll ps = true
  | [], ps, e => by unfold pyDs at e; cases e; rfl
  | d :: ds, ps, e => by
    unfold pyDs at e
    cases q : pyD d with
    | none => rw [q] at e; cases e
    | some p =>
      rw [q] at e
      cases q2 : pyDs ds with
      | none => rw [q2] at e; cases e
      | some ps =>
        rw [q2] at e
        cases e
        show (p.plain && PyData.plainAll ps) = true
        rw [pyD_plain q, pyDs_plain q2]
        rfl
end
theorem lists_plain {ds : List D} {p : PyData} (e : (pyDs ds).map PyData.list = some p) : p.plain = true := by
  cases q : pyDs ds with
  | none => rw [q] at e; cases e
  | some ps =>
    rw [q] at e
    cases e
    show PyData.plain (.list ps) = true
    unfold PyData.plain
    exact pyDs_plain q
theorem pyO_plain {o : O} {p : PyData} (e : pyO c o = some p) : p.plain = true := by
  unfold pyO at e
  split at e
  · split at e
    · exact lists_plain e
    · cases e
  · exact pyD_plain e
  · split at e
    · exact lists_plain e
    · exact lists_plain e
    · cases e
def gEq (neg : Bool) : O → O → M D := fun a b c => match pyO c a, pyO c b with
  | some p, some q => if p.depth ≤ 64 then .ok (.v (.bl (if neg then !PyData.eqv p q else PyData.eqv p q))) c else .no
  | _, _ => .no
def rEqP (K : PySem.W.Frag) (neg : Bool) : R2 := fun x y H Q => ∃ d e, Dp K H x d ∧ Dp K H y e ∧ d.plain = true ∧ e.plain = true ∧ d.depth ≤ 64 ∧ Q (.bl (if neg then !PyData.eqv d e else PyData.eqv d e)) H
theorem r2_eq (neg : Bool) : R2S K W (rEqP K neg) (gEq neg) := fun Z F μ c σ H Q x y a b R rx ry p => by
  unfold gEq at p
  split at p
  · next d e h1 h2 =>
    split at p
    · next hs => exact ⟨d, e, dpO_of R rx h1, dpO_of R ry h2, pyO_plain h1, pyO_plain h2, hs, p F μ H (Le.refl _ _) R _ (.v _)⟩
    · exact p.elim
  · exact p.elim
/-- is None -/
def isNon : D → Bool
  | .v x => decide (x = .non)
  | _ => false
def gNone (neg : Bool) : O → O → M D := fun a b c => match b with
  | .d (.v .non) => match a with
    | .d x => .ok (.v (.bl (if neg then !isNon x else isNon x))) c
    | .sl _ => .no
  | _ => .no
def rNoneA (neg : Bool) : R2 := fun x y H Q => y = .non ∧ Q (.bl (if neg then !decide (x = .non) else decide (x = .non))) H
theorem rep_non {v : V} {d : D} (h : Rep K F μ v d) : isNon d = decide (v = .non) := by
  cases h with
  | v x => rfl
  | _ => rfl
theorem r2_none (neg : Bool) : R2S K W (rNoneA neg) (gNone neg) := fun Z F μ c σ H Q x y a b R rx ry p => by
  unfold gNone at p
  split at p
  · cases ry with
    | d ry =>
      cases ry
      refine ⟨rfl, ?_⟩
      split at p
      · cases rx with
        | d rx =>
          have := p F μ H (Le.refl _ _) R _ (.v _)
          rw [rep_non rx] at this
          exact this
      · exact p.elim
  · exact p.elim

def iLt : Int → Int → Option V := fun i j => some (.bl (decide (i < j)))
def iLe : Int → Int → Option V := fun i j => some (.bl (decide (i ≤ j)))
def iGt : Int → Int → Option V := fun i j => some (.bl (decide (j < i)))
def iGe : Int → Int → Option V := fun i j => some (.bl (decide (j ≤ i)))
theorem r2_lt : R2S K W (rI0 fun i j => .bl (decide (i < j))) (gI iLt) := r2_int fun i j v H Q e q => ⟨i, j, rfl, rfl, by cases e; exact q⟩
theorem r2_le : R2S K W (rI0 fun i j => .bl (decide (i ≤ j))) (gI iLe) := r2_int fun i j v H Q e q => ⟨i, j, rfl, rfl, by cases e; exact q⟩
theorem r2_gt : R2S K W (rI0 fun i j => .bl (decide (j < i))) (gI iGt) := r2_int fun i j v H Q e q => ⟨i, j, rfl, rfl, by cases e; exact q⟩
theorem r2_ge : R2S K W (rI0 fun i j => .bl (decide (j ≤ i))) (gI iGe) := r2_int fun i j v H Q e q => ⟨i, j, rfl, rfl, by cases e; exact q⟩
/-- plain flat values -/
def vsD : List D → Option (List V)
  | [] => some []
  | .v x :: ds => if flatV x = true then (vsD ds).map (x :: ·) else none
  | _ :: _ => none
theorem vs_of {F : Hp} {μ : List Addr} : ∀ {ds : List D} {vs xs : List V}, Reps K F μ vs ds → vsD ds = some xs → vs = xs ∧ xs.all flatV = true
  | [], vs, xs, h, e => by cases h; unfold vsD at e; cases e; exact ⟨rfl, rfl⟩
  | .v x :: ds, vs, xs, h, e => by
    cases h with
    | cons h r =>
      cases h
      unfold vsD at e
      split at e
      · next hf =>
        cases q : vsD ds with
        | none => rw [q] at e; cases e
        | some ys =>
          rw [q] at e
          cases e
          obtain ⟨rfl, ha⟩ := vs_of r q
          exact ⟨rfl, by rw [List.all_cons, hf, ha]; rfl⟩
      · cases e
  | .tup _ :: _, _, _, _, e => by unfold vsD at e; cases e
  | .lst _ :: _, _, _, _, e => by unfold vsD at e; cases e
  | .scr _ :: _, _, _, _, e => by unfold vsD at e; cases e
  | .dct _ :: _, _, _, _, e => by unfold vsD at e; cases e
  | .ins _ _ :: _, _, _, _, e => by unfold vsD at e; cases e
  | .loc _ :: _, _, _, _, e => by unfold vsD at e; cases e
def gIn (neg : Bool) : O → O → M D := fun a b c => match a with
  | .d (.v x) => if flatV x = true then match (seqD c b).bind vsD with
      | some xs => .ok (.v (.bl (if neg then !inV x xs else inV x xs))) c
      | none => .no
    else .no
  | _ => .no
theorem r2_in (neg : Bool) : R2S K W (rIn K neg) (gIn neg) := fun Z F μ c σ H Q x y a b R rx ry p => by
  unfold gIn at p
  split at p
  · next z =>
    cases rx with
    | d rx =>
      cases rx
      split at p
      · next hf =>
        split at p
        · next xs hx =>
          cases q : seqD c b with
          | none => rw [q] at hx; cases hx
          | some ds =>
            rw [q] at hx
            obtain ⟨l, vs, rfl, h1, q1⟩ := seq_at R ry q
            obtain ⟨rfl, ha⟩ := vs_of q1 hx
            exact ⟨l, vs, rfl, h1, hf, ha, p F μ H (Le.refl _ _) R _ (.v _)⟩
        · exact p.elim
      · exact p.elim
  · exact p.elim
/-- one sign in a text -/
def gSign (neg : Bool) : O → O → M D := fun a b c => match a, b with
  | .d (.v (.str x)), .d (.v (.str z)) => match x.cps.toList with
    | [k] => .ok (.v (.bl (if neg then !decide (k ∈ z.cps.toList) else decide (k ∈ z.cps.toList)))) c
    | _ => .no
  | _, _ => .no
def rSign (neg : Bool) : R2 := fun x y H Q => ∃ (k : Nat) (z : Str), x = .str ⟨#[k]⟩ ∧ y = .str z ∧ Q (.bl (if neg then !decide (k ∈ z.cps.toList) else decide (k ∈ z.cps.toList))) H
theorem str_one {x : Str} {k : Nat} (h : x.cps.toList = [k]) : x = ⟨#[k]⟩ := by
  obtain ⟨cps⟩ := x
  have : cps = #[k] := by
    have := congrArg List.toArray h
    simpa using this
  rw [this]
theorem r2_sign (neg : Bool) : R2S K W (rSign neg) (gSign neg) := fun Z F μ c σ H Q x y a b R rx ry p => by
  unfold gSign at p
  split at p
  · next x z =>
    cases rx with
    | d rx =>
      cases rx
      cases ry with
      | d ry =>
        cases ry
        split at p
        · next k hk => exact ⟨k, z, by rw [str_one hk], rfl, p F μ H (Le.refl _ _) R _ (.v _)⟩
        · exact p.elim
  · exact p.elim
end

section
variable {X : Cx} {W : WX} {a b : Expr} {t ta tb : TE} {pos : Pos} {da db : M O}
/-- a comparison's rule: of the text's machine, of the image -/
structure CmpR (X : Cx) (W : WX) (op : CmpOp) (r : R2) (g : O → O → M D) : Prop where
  op : OpR X (compareOp op) r
  g : R2S X.K W r g
theorem op_eqP (neg : Bool) (hu : X.A.units + 64 < cLine) : OpR X (compareOp (if neg then .NotEq else .Eq)) (rEqP X.K neg) := by
  intro pins s σ H x y v u Q I rx ry h
  obtain ⟨d, e, hd, he, pd, pe, hz, q⟩ := h
  obtain ⟨as, r1⟩ := Dp.reads I d x v hd rx
  obtain ⟨bs, r2⟩ := Dp.reads I e y u he ry
  have hm : X.A.units + min d.depth e.depth < cLine := by
    have : min d.depth e.depth ≤ d.depth := Nat.min_le_left _ _
    omega
  cases neg with
  | false => exact PySem.SeqAt.eq_plain r1 r2 pd pe hm ⟨.bl _, H, I, rfl, q⟩
  | true => exact PySem.SeqAt.ne_plain r1 r2 pd pe hm ⟨.bl _, H, I, rfl, q⟩
theorem cEq {K : PySem.W.Frag} (hu : X.A.units + 64 < cLine) (hK : X.K = K := by rfl) : CmpR X W .Eq (rEqP K false) (gEq false) := by
  subst hK
  exact ⟨op_eqP false hu, r2_eq false⟩
theorem cNe {K : PySem.W.Frag} (hu : X.A.units + 64 < cLine) (hK : X.K = K := by rfl) : CmpR X W .NotEq (rEqP K true) (gEq true) := by
  subst hK
  exact ⟨op_eqP true hu, r2_eq true⟩
theorem cLt : CmpR X W .Lt (rI0 fun i j => .bl (decide (i < j))) (gI iLt) := ⟨op_lt, r2_lt⟩
theorem cLe : CmpR X W .LtE (rI0 fun i j => .bl (decide (i ≤ j))) (gI iLe) := ⟨op_le, r2_le⟩
theorem cGt : CmpR X W .Gt (rI0 fun i j => .bl (decide (j < i))) (gI iGt) := ⟨op_gt, r2_gt⟩
theorem cGe : CmpR X W .GtE (rI0 fun i j => .bl (decide (j ≤ i))) (gI iGe) := ⟨op_ge, r2_ge⟩
theorem cIs : CmpR X W .Is (rNoneA false) (gNone false) := ⟨op_isN, r2_none false⟩
theorem cIsNot : CmpR X W .IsNot (rNoneA true) (gNone true) := ⟨op_notN, r2_none true⟩
def rInA (K : PySem.W.Frag) (neg : Bool) : R2 := fun x y H Q => rIn K neg x y H Q ∨ rSign neg x y H Q
theorem cIn {K : PySem.W.Frag} (hK : X.K = K := by rfl) : CmpR X W .In (rInA K false) (gOr (gIn false) (gSign false)) := by
  subst hK
  exact ⟨op_in_seq.or op_in_sign, (r2_in false).or (r2_sign false)⟩
theorem cNotIn {K : PySem.W.Frag} (hK : X.K = K := by rfl) : CmpR X W .NotIn (rInA K true) (gOr (gIn true) (gSign true)) := by
  subst hK
  exact ⟨op_notIn_seq.or op_notIn_sign, (r2_in true).or (r2_sign true)⟩
theorem dd_cmp {op : CmpOp} {r : R2} {g : O → O → M D} (h : CmpR X W op r g) (ha : ED X W a ta da) (hb : ED X W b tb db) (hm : behindInMarks op b = false) : DD X W (.Compare a [op] [b] pos) (tOp r ta tb) (dOp g da db) :=
  ⟨pe_cmpR h.op ha.pe hb.pe hm, ev_op h.g ha.ev hb.ev⟩
/-- what a value is as a test -/
def truD (c : Stt) : O → Option Bool
  | .d (.v .non) => some false
  | .d (.v (.bl b)) => some b
  | .d (.v (.int i)) => some (i != 0)
  | .d (.v (.str x)) => if x.length ≤ 1000000 then some ((x.length : Int) != 0) else none
  | o => (seqD c o).map fun ds => !ds.isEmpty
def gTru (o : O) : M Bool := fun c => match truD c o with
  | some b => .ok b c
  | none => .no
theorem tru_of {K : PySem.W.Frag} {Z F : Hp} {μ : List Addr} {c : Stt} {σ : St} {H : Hp} {v : V} {o : O} {b : Bool} (R : Rel K Z F μ c σ H) (r : RepO K F μ σ v o) (e : truD c o = some b) : TruV K v H b := by
  unfold truD at e
  split at e
  · cases r with | d r => cases r; cases e; rfl
  · cases r with | d r => cases r; cases e; rfl
  · cases r with | d r => cases r; cases e; rfl
  · cases r with
    | d r =>
      cases r
      split at e
      · next hz => cases e; exact ⟨small6 hz, rfl⟩
      · cases e
  · cases q : seqD c o with
    | none => rw [q] at e; cases e
    | some ds =>
      rw [q] at e
      cases e
      obtain ⟨l, vs, rfl, h1, q1⟩ := seq_at R r q
      have el : (!vs.isEmpty) = !ds.isEmpty := by
        have := q1.length
        cases vs <;> cases ds <;> simp_all
      rcases h1 with h1 | h1
      · exact .inl ⟨vs, h1, el.symm⟩
      · exact .inr (.inl ⟨vs, h1, el.symm⟩)
def tTru (K : PySem.W.Frag) (t : TE) : TT := fun σ H Q => t σ H fun x H' => ∃ k, TruV K x H' k ∧ Q k H'
def dTru (a : M O) : M Bool := M.bind a gTru
theorem td_val {K : PySem.W.Frag} {e : Expr} (h : ED X W e t da) (hK : X.K = K := by rfl) (he : ∀ whole, isTrue e X.env whole = (do let v ← whole; standAt e.pos; holding [v] (truthy v)) := by intro _; rfl) : TD X W e (tTru K t) (dTru da) := by
  subst hK
  exact ⟨pt_truth h.pe he, fun Z F μ c σ H Q R p => h.ev Z F μ c σ H _ R (p.bind.imp fun o c1 F1 μ1 H1 l1 R1 p1 v1 r1 => by
    unfold gTru at p1
    split at p1
    · next b hb => exact ⟨b, tru_of R1 r1 hb, p1 F1 μ1 H1 (Le.refl _ _) R1⟩
    · exact p1.elim)⟩
def gBool (x : D) : M Bool := fun c => match x with
  | .v (.bl b) => .ok b c
  | _ => .no
def dCmpT (g : O → O → M D) (a b : M O) : M Bool := M.bind (dOp g a b) gBool
theorem td_cmp {op : CmpOp} {r : R2} {g : O → O → M D} (h : CmpR X W op r g) (ha : ED X W a ta da) (hb : ED X W b tb db) (hm : behindInMarks op b = false) : TD X W (.Compare a [op] [b] pos) (tTest (tOp r ta tb)) (dCmpT g da db) :=
  ⟨pt_cmpR h.op ha.pe hb.pe hm, fun Z F μ c σ H Q R p => ev_op h.g ha.ev hb.ev Z F μ c σ H _ R (p.bind.imp fun x c1 F1 μ1 H1 l1 R1 p1 v1 r1 => by
    unfold gBool at p1
    split at p1
    · cases r1; exact ⟨_, rfl, p1 F1 μ1 H1 (Le.refl _ _) R1⟩
    · exact p1.elim)⟩
/-- a op b op' c -/
def dChain (g g' : O → O → M D) (da db dc : M O) : M D := M.bind da fun x => M.bind db fun y => M.bind (M.bind (g x y) gBool) fun k => if k = true then M.bind dc fun z => g' y z else M.pure (.v (.bl false))
theorem dd_chain {op op' : CmpOp} {r r' : R2} {g g' : O → O → M D} {e : Expr} {tc : TE} {dc : M O} (h : CmpR X W op r g) (h' : CmpR X W op' r' g') (ha : ED X W a ta da) (hb : ED X W b tb db) (hc : ED X W e tc dc)
    (hm : lastMarks [op, op'] [b, e] = false := by rfl) : DD X W (.Compare a [op, op'] [b, e] pos) (tChain r r' ta tb tc) (dChain g g' da db dc) := by
  refine ⟨pe_chain h.op h'.op ha.pe hb.pe hc.pe hm, fun Z F μ c σ H Q R p => ?_⟩
  refine ha.ev Z F μ c σ H _ R (p.bind.imp fun o c1 F1 μ1 H1 l1 R1 p1 v1 r1 => hb.ev Z F1 μ1 c1 σ H1 _ R1 (p1.bind.imp fun o2 c2 F2 μ2 H2 l2 R2 p2 v2 r2 => ?_))
  refine h.g Z F2 μ2 c2 σ H2 _ v1 v2 o o2 R2 (r1.mono l2) r2 (p2.bind.bind.imp fun x c3 F3 μ3 H3 l3 R3 p3 v3 r3 => ?_)
  unfold gBool at p3
  split at p3
  · next k =>
    cases r3
    have p4 := p3 F3 μ3 H3 (Le.refl _ _) R3
    refine ⟨k, rfl, ?_⟩
    cases k with
    | true => exact hc.ev Z F3 μ3 c3 σ H3 _ R3 (p4.bind.imp fun o4 c4 F4 μ4 H4 l4 R4 p5 v4 r4 => h'.g Z F4 μ4 c4 σ H4 Q v2 v4 o2 o4 R4 ((r2.mono l3).mono l4) r4 p5)
    | false => exact p4 F3 μ3 H3 (Le.refl _ _) R3 _ (.v _)
  · exact p3.elim
theorem td_chain {op op' : CmpOp} {r r' : R2} {g g' : O → O → M D} {e : Expr} {tc : TE} {dc : M O} (h : CmpR X W op r g) (h' : CmpR X W op' r' g') (ha : ED X W a ta da) (hb : ED X W b tb db) (hc : ED X W e tc dc)
    (hm : lastMarks [op, op'] [b, e] = false := by rfl) : TD X W (.Compare a [op, op'] [b, e] pos) (tTest (tChain r r' ta tb tc)) (M.bind (dChain g g' da db dc) gBool) :=
  ⟨pt_chain h.op h'.op ha.pe hb.pe hc.pe hm, fun Z F μ c σ H Q R p => (dd_chain (pos := pos) h h' ha hb hc hm).ev Z F μ c σ H _ R (p.bind.imp fun x c1 F1 μ1 H1 l1 R1 p1 v1 r1 => by
    unfold gBool at p1
    split at p1
    · cases r1; exact ⟨_, rfl, p1 F1 μ1 H1 (Le.refl _ _) R1⟩
    · exact p1.elim)⟩
theorem td_of {e : Expr} {dd : M D} (hp : PT X e (tTest t)) (hv : EvD X.K W t dd) : TD X W e (tTest t) (M.bind dd gBool) := ⟨hp, fun Z F μ c σ H Q R p => hv Z F μ c σ H _ R (p.bind.imp fun x c1 F1 μ1 H1 l1 R1 p1 v1 r1 => by
    unfold gBool at p1
    split at p1
    · cases r1; exact ⟨_, rfl, p1 F1 μ1 H1 (Le.refl _ _) R1⟩
    · exact p1.elim)⟩

/-! ### and, or, not, if -/
variable {A B : TT} {dA dB : M Bool} {rest : List Expr}
theorem wd_and1 (ha : TD X W a A dA) : WD X W (.BoolOp .And [a] pos) A dA := ⟨pw_and1 ha.pt, ha.ev⟩
theorem wd_or1 (ha : TD X W a A dA) : WD X W (.BoolOp .Or [a] pos) A dA := ⟨pw_or1 ha.pt, ha.ev⟩
def dAnd (a b : M Bool) : M Bool := M.bind a fun k => if k = true then b else M.pure false
def dOr (a b : M Bool) : M Bool := M.bind a fun k => if k = true then M.pure true else b
def dNotT (a : M Bool) : M Bool := M.bind a fun k => M.pure (!k)
theorem wd_and (ha : TD X W a A dA) (hb : WD X W (.BoolOp .And (b :: rest) pos) B dB) : WD X W (.BoolOp .And (a :: b :: rest) pos) (tAnd A B) (dAnd dA dB) :=
  ⟨pw_and ha.pt hb.pw, fun Z F μ c σ H Q R p => ha.ev Z F μ c σ H _ R (p.bind.imp fun k c1 F1 μ1 H1 l1 R1 p1 => by
    cases k with
    | true => exact hb.ev Z F1 μ1 c1 σ H1 Q R1 p1
    | false => exact p1 F1 μ1 H1 (Le.refl _ _) R1)⟩
theorem wd_or (ha : TD X W a A dA) (hb : WD X W (.BoolOp .Or (b :: rest) pos) B dB) : WD X W (.BoolOp .Or (a :: b :: rest) pos) (tOr A B) (dOr dA dB) :=
  ⟨pw_or ha.pt hb.pw, fun Z F μ c σ H Q R p => ha.ev Z F μ c σ H _ R (p.bind.imp fun k c1 F1 μ1 H1 l1 R1 p1 => by
    cases k with
    | true => exact p1 F1 μ1 H1 (Le.refl _ _) R1
    | false => exact hb.ev Z F1 μ1 c1 σ H1 Q R1 p1)⟩
theorem td_w {e : Expr} (h : WD X W e A dA) : TD X W e A dA := ⟨h.pw.pt, h.ev⟩
theorem td_not (ha : TD X W a A dA) : TD X W (.UnaryOp .Not a pos) (tNot A) (dNotT dA) :=
  ⟨pt_not ha.pt, fun Z F μ c σ H Q R p => ha.ev Z F μ c σ H _ R (p.bind.imp fun k c1 F1 μ1 H1 l1 R1 p1 => p1 F1 μ1 H1 (Le.refl _ _) R1)⟩
/-- as values: all but the last True or False -/
def gBoolO (o : O) : M Bool := fun c => match o with
  | .d (.v (.bl b)) => .ok b c
  | _ => .no
theorem gBoolO_ok {K : PySem.W.Frag} {Z F : Hp} {μ : List Addr} {c : Stt} {σ : St} {H : Hp} {v : V} {o : O} {P : Bool → Stt → Hp → List Addr → Hp → Prop} (R : Rel K Z F μ c σ H) (r : RepO K F μ σ v o) (p : Post K Z F μ σ W (gBoolO o c) P) : ∃ b, v = .bl b ∧ P b c F μ H := by
  unfold gBoolO at p
  split at p
  · cases r with | d r => cases r; exact ⟨_, rfl, p F μ H (Le.refl _ _) R⟩
  · exact p.elim
theorem ed_one {op : BoolOp} (h : ED X W a ta da) : ED X W (.BoolOp op [a] pos) ta da := ⟨pe_one h.pe, h.ev⟩
def dAndV (a b : M O) : M O := M.bind (M.bind a gBoolO) fun k => if k = true then b else M.pure (.d (.v (.bl false)))
def dOrV (a b : M O) : M O := M.bind (M.bind a gBoolO) fun k => if k = true then M.pure (.d (.v (.bl true))) else b
def dNotV (a : M O) : M O := M.bind (M.bind a gBoolO) fun k => M.pure (.d (.v (.bl (!k))))
theorem ed_and (ha : ED X W a ta da) (hb : ED X W (.BoolOp .And (b :: rest) pos) tb db) : ED X W (.BoolOp .And (a :: b :: rest) pos) (tAndV ta tb) (dAndV da db) :=
  ⟨pe_and ha.pe hb.pe, fun Z F μ c σ H Q R p => ha.ev Z F μ c σ H _ R (p.bind.bind.imp fun o c1 F1 μ1 H1 l1 R1 p1 v1 r1 => by
    obtain ⟨k, rfl, p2⟩ := gBoolO_ok R1 r1 p1
    refine ⟨k, rfl, ?_⟩
    cases k with
    | true => exact hb.ev Z F1 μ1 c1 σ H1 Q R1 p2
    | false => exact p2 F1 μ1 H1 (Le.refl _ _) R1 _ (.d (.v _)))⟩
theorem ed_or (ha : ED X W a ta da) (hb : ED X W (.BoolOp .Or (b :: rest) pos) tb db) : ED X W (.BoolOp .Or (a :: b :: rest) pos) (tOrV ta tb) (dOrV da db) :=
  ⟨pe_or ha.pe hb.pe, fun Z F μ c σ H Q R p => ha.ev Z F μ c σ H _ R (p.bind.bind.imp fun o c1 F1 μ1 H1 l1 R1 p1 v1 r1 => by
    obtain ⟨k, rfl, p2⟩ := gBoolO_ok R1 r1 p1
    refine ⟨k, rfl, ?_⟩
    cases k with
    | true => exact p2 F1 μ1 H1 (Le.refl _ _) R1 _ (.d (.v _))
    | false => exact hb.ev Z F1 μ1 c1 σ H1 Q R1 p2)⟩
theorem ed_not (ha : ED X W a ta da) : ED X W (.UnaryOp .Not a pos) (tNotV ta) (dNotV da) :=
  ⟨pe_not ha.pe, fun Z F μ c σ H Q R p => ha.ev Z F μ c σ H _ R (p.bind.bind.imp fun o c1 F1 μ1 H1 l1 R1 p1 v1 r1 => by
    obtain ⟨k, rfl, p2⟩ := gBoolO_ok R1 r1 p1
    exact ⟨k, rfl, p2 F1 μ1 H1 (Le.refl _ _) R1 _ (.d (.v _))⟩)⟩
def dIf (t : M Bool) (a b : M O) : M O := M.bind t fun k => if k = true then a else b
theorem ed_if {e : Expr} (hc : TD X W e A dA) (ha : ED X W a ta da) (hb : ED X W b tb db) : ED X W (.IfExp e a b pos) (tIf A ta tb) (dIf dA da db) :=
  ⟨pe_ifExp hc.pt ha.pe hb.pe, fun Z F μ c σ H Q R p => hc.ev Z F μ c σ H _ R (p.bind.imp fun k c1 F1 μ1 H1 l1 R1 p1 => by
    cases k with
    | true => exact ha.ev Z F1 μ1 c1 σ H1 Q R1 p1
    | false => exact hb.ev Z F1 μ1 c1 σ H1 Q R1 p1)⟩

/-! ### rows of operands, displays, calls -/
variable {es : List Expr} {tr : TA} {dr : M (List D)}
def dNil : M (List D) := M.pure []
def dCons (dx : M D) (dr : M (List D)) : M (List D) := M.bind dx fun x => M.bind dr fun xs => M.pure (x :: xs)
theorem ad_nil : AD X W [] tNil dNil := ⟨pa_nil, fun Z F μ c σ H Q R p => p F μ H (Le.refl _ _) R [] .nil⟩
theorem ad_cons {dx : M D} (ha : DD X W a ta dx) (hr : AD X W es tr dr) (hs : starEach (a :: es) X.env = (false, eval a X.env) :: starEach es X.env := by rfl) : AD X W (a :: es) (tCons ta tr) (dCons dx dr) :=
  ⟨pa_cons ha.pe hr.pa hs, fun Z F μ c σ H Q R p => ha.ev Z F μ c σ H _ R (p.bind.imp fun x c1 F1 μ1 H1 l1 R1 p1 v1 r1 => hr.ev Z F1 μ1 c1 σ H1 _ R1 (p1.bind.imp fun xs c2 F2 μ2 H2 l2 R2 p2 vs rs => p2 F2 μ2 H2 (Le.refl _ _) R2 _ (.cons (r1.mono l2) rs)))⟩
def dTup (dr : M (List D)) : M D := M.bind dr fun ds c => if ds.length ≤ 1000000 then .ok (.tup ds) c else .no
theorem dd_tup {k : Nat} (h : AD X W es tr dr) : DD X W (.Tuple es k pos) (tTup tr) (dTup dr) :=
  ⟨pe_tup h.pa, fun Z F μ c σ H Q R p => h.ev Z F μ c σ H _ R (p.bind.imp fun ds c1 F1 μ1 H1 l1 R1 p1 vs rs => by
    split at p1
    · next hz =>
      refine ⟨small6 (by rw [rs.length]; exact hz), fun q hq => ?_⟩
      obtain ⟨R2, l2⟩ := R1.new (o := .tup vs) hq
      exact p1 _ _ _ l2 R2 _ (.tup (.of upd_same) (rs.mono l2))
    · exact p1.elim)⟩
def dLst (dr : M (List D)) : M (List D) := M.bind dr fun ds c => if ds.length ≤ 1000000 then .ok ds c else .no
theorem en_lst (h : AD X W es tr dr) : EN X W (.List es pos) (tLst tr) (dLst dr) :=
  ⟨pe_lst h.pa, fun Z F μ c σ H Q R p => h.ev Z F μ c σ H _ R (p.bind.imp fun ds c1 F1 μ1 H1 l1 R1 p1 vs rs => by
    split at p1
    · next hz =>
      refine ⟨small6 (by rw [rs.length]; exact hz), fun q hq => ?_⟩
      exact p1 F1 μ1 _ (Le.refl _ _) (R1.up (same_new hq)) q vs upd_same (R1.nob hq) rs
    · exact p1.elim)⟩

/-- what a def computes -/
inductive RF where
  | ok (d : D) (S : List Cell)
  | ex (e : Exn) (S : List Cell)
  | no
def PostF (K : PySem.W.Frag) (Z F : Hp) (μ : List Addr) (r : RF) (Q : VK) (E : XK) : Prop := match r with
  | .ok d S => ∀ v F' μ' H', Le F μ F' μ' → Rel K Z F' μ' ⟨[], S⟩ [] H' → Rep K F' μ' v d → Q v H'
  | .ex e S => ∀ cls od F' μ' H', Le F μ F' μ' → Rel K Z F' μ' ⟨[], S⟩ [] H' → RepX K F' μ' cls od e → E cls od H'
  | .no => False
abbrev G := List D → List Cell → RF
/-- the promise of a def that computes g of n operands -/
def spG (K : PySem.W.Frag) (g : G) : Sp := fun vs H Q E => ∃ Z F μ S ds, Rel K Z F μ ⟨[], S⟩ [] H ∧ Reps K F μ vs ds ∧ PostF K Z F μ (g ds S) Q E
/-- the caller's own objects are lent to nobody -/
noncomputable def lend (Z : Hp) (c : Stt) (σ : St) (H : Hp) : Hp := fun a => open Classical in if (∃ (i : Nat) (m : Cell), c.r[i]? = some (.own m) ∧ σ[i]? = some (some (.ref a))) then H a else Z a
theorem lend_of {K : PySem.W.Frag} {Z F : Hp} {μ : List Addr} {c : Stt} {σ : St} {H : Hp} (R : Rel K Z F μ c σ H) : Rel K (lend Z c σ H) F μ ⟨[], c.S⟩ [] H := by
  have yes : ∀ a, (∃ (i : Nat) (m : Cell), c.r[i]? = some (.own m) ∧ σ[i]? = some (some (.ref a))) → F a = none := fun a ⟨i, m, q, e⟩ => by
    obtain ⟨a', e1, c1, g1⟩ := R.own i m q
    rw [e] at e1; cases e1
    exact c1.f g1
  refine { ex := R.ex, exz := fun a o e => ?_, fz := fun a o e => ?_, len := rfl, slot := fun i x e => by simp at e, own := fun i x e => by simp at e, dis := fun i j a m m' e => by simp at e, lm := R.lm, sto := fun n a m e1 e2 => ?_, dst := fun i n a m e => by simp at e, ndm := R.ndm }
  · unfold lend at e
    split at e
    · exact e
    · exact R.exz a o e
  · unfold lend at e
    split at e
    · next h => exact yes a h
    · exact R.fz a o e
  · have c1 := R.sto n a m e1 e2
    refine ⟨?_, c1.f, c1.o⟩
    unfold lend
    rw [if_neg]
    · exact c1.z
    · rintro ⟨i, m', q, e⟩
      exact R.dst i n a m' q e e1
/-- behind the call -/
theorem lend_back {K : PySem.W.Frag} {Z F F' : Hp} {μ μ' : List Addr} {c : Stt} {σ : St} {H H' : Hp} {S' : List Cell} (R : Rel K Z F μ c σ H) (le : Le F μ F' μ') (R' : Rel K (lend Z c σ H) F' μ' ⟨[], S'⟩ [] H') : Rel K Z F' μ' ⟨c.r, S'⟩ σ H' := by
  have mine : ∀ {a : Addr} {i : Nat} {m : Cell}, c.r[i]? = some (.own m) → σ[i]? = some (some (.ref a)) → lend Z c σ H a = H a := fun {a i m} q e => by
    unfold lend
    rw [if_pos ⟨i, m, q, e⟩]
  have zs : ∀ a o, Z a = some o → lend Z c σ H a = some o := fun a o e => by
    unfold lend
    split
    · next h =>
      obtain ⟨i, m, q, e1⟩ := h
      obtain ⟨a', e2, c1, _⟩ := R.own i m q
      rw [e1] at e2; cases e2
      rw [c1.z] at e; cases e
    · exact e
  refine { ex := R'.ex, exz := fun a o e => R'.exz a o (zs a o e), fz := fun a o e => R'.fz a o (zs a o e), len := R.len, slot := fun i x e => (let ⟨v, e1, e2⟩ := R.slot i x e; ⟨v, e1, e2.mono le⟩), own := fun i m q => ?_, dis := R.dis, lm := R'.lm, sto := fun n a m e1 e2 => ?_, dst := fun i n a m q e e1 => ?_, ndm := R'.ndm }
  · obtain ⟨a, e, c1, g1⟩ := R.own i m q
    obtain ⟨o, e1, e2⟩ := c1.o
    have l := mine q e
    rw [e1] at l
    exact ⟨a, e, ⟨c1.z, fun _ => R'.fz a o l, o, R'.exz a o l, e2.mono le⟩, g1⟩
  · have c1 := R'.sto n a m e1 e2
    refine ⟨?_, c1.f, c1.o⟩
    cases hz : Z a with
    | none => rfl
    | some o =>
      have := zs a o hz
      rw [c1.z] at this; cases this
  · obtain ⟨a', e', c1, g1⟩ := R.own i m q
    rw [e] at e'; cases e'
    obtain ⟨o, e2, _⟩ := c1.o
    have l := mine q e
    rw [e2] at l
    have hn : n < S'.length := by
      have h1 : μ'.length = S'.length := R'.lm
      rw [← h1]
      exact (List.getElem?_eq_some_iff.mp e1).1
    have := (R'.sto n a _ e1 (List.getElem?_eq_getElem hn)).z
    rw [l] at this; cases this
/-- what a caller's wish about exceptions takes -/
def Pol (X : Cx) (W : WX) : Prop := ∀ σ, PassesAt (L2.CX X.prog X.w) X σ (WE W σ)
theorem pol_of {X : Cx} {W : WX} (tk : Takes X W) : Pol X W := fun σ => passAt tk σ
abbrev W0 : WX := fun _ _ _ _ => False
theorem pol0 {X : Cx} : Pol X W0 := fun σ pins H s e s' I c => by
  obtain ⟨_, _, _, _, _, _, _, _, _, _, _, _, z⟩ := c
  exact z.elim
def ofF (c : Stt) : RF → R D
  | .ok d S => .ok d ⟨c.r, S⟩
  | .ex e S => .ex e ⟨c.r, S⟩
  | .no => .no
def dCall (g : G) (dr : M (List D)) : M D := M.bind dr fun ds c => ofF c (g ds c.S)
theorem sp_call {K : PySem.W.Frag} {Z F : Hp} {μ : List Addr} {c : Stt} {σ : St} {H : Hp} {g : G} {ds : List D} {vs : List V} {Q : VK} (R : Rel K Z F μ c σ H) (rs : Reps K F μ vs ds)
    (p : Post K Z F μ σ W (ofF c (g ds c.S)) (fun x _ F' μ' H' => ∀ v, Rep K F' μ' v x → Q v H')) : spG K g vs H Q (WE W σ) := by
  refine ⟨lend Z c σ H, F, μ, c.S, ds, lend_of R, rs, ?_⟩
  cases e : g ds c.S with
  | ok d S => rw [e] at p; exact fun v F' μ' H' le R' rv => p F' μ' H' le (lend_back R le R') v rv
  | ex x S => rw [e] at p; exact fun cls od F' μ' H' le R' rv => p cls od F' μ' H' le (lend_back R le R') rv
  | no => rw [e] at p; exact p.elim
theorem dd_call {k : Nat} {f : Addr} {fd : FuncData} {ps : List Str} {g : G} {x : Str} {p : Pos} (Fk : FnOk X.prog X.w X.K X.mg X.base (L2.CX X.prog X.w) k f fd ps (spG X.K g)) (hr : Room k X.A) (hg : Gl X x) (hm : X.mg x = some (.ref f)) (hk : PySem.W.keepIn X.K (.ref f) = true) (hb : Binds X.K fd ps []) (hx : Pol X W)
    (ha : AD X W (a :: es) tr dr)
    (hdb : (x == ("__debug__" : Str)) = false := by decide) (he : starEach (a :: es) X.env = (false, eval a X.env) :: starEach es X.env := by rfl) (hpl : (backTo pos (starEach es X.env)).any (·.1) = false := by rfl) :
    DD X W (.Call (.Name x p) (a :: es) [] pos) (tCallS (spG X.K g) (WE W) tr) (dCall g dr) :=
  ⟨pe_callS Fk hr hg hm hk hb hx ha.pa hdb he hpl, fun Z F μ c σ H Q R p => ha.ev Z F μ c σ H _ R (p.bind.imp fun ds c1 F1 μ1 H1 l1 R1 p1 vs rs => sp_call R1 rs p1)⟩
end
end My

set_option Elab.async false
set_option linter.all false
set_option maxRecDepth 100000
set_option maxHeartbeats 4000000
/-! F5: statements, loops, comprehensions, a def's promise. -/
namespace My
open PySem L2

/-- nothing is raised here -/
def M.ne {α : Type} (m : M α) : M α := fun c => match m c with
  | .ex _ _ => .no
  | r => r
inductive Fl where
  | nx
  | rt (d : D)
  | bk
  | ct
def PostS (K : PySem.W.Frag) (Z F : Hp) (μ : List Addr) (W : WX) (r : R Fl) (D : Ends) : Prop := match r with
  | .ok .nx c => ∀ σ' F' μ' H', Le F μ F' μ' → Rel K Z F' μ' c σ' H' → D.nx σ' H'
  | .ok (.rt d) c => ∀ v σ' F' μ' H', Le F μ F' μ' → Rel K Z F' μ' c σ' H' → Rep K F' μ' v d → D.rt v H'
  | .ok .bk c => ∀ σ' F' μ' H', Le F μ F' μ' → Rel K Z F' μ' c σ' H' → D.bk σ' H'
  | .ok .ct c => ∀ σ' F' μ' H', Le F μ F' μ' → Rel K Z F' μ' c σ' H' → D.ct σ' H'
  | .ex e c => ∀ cls od σ' F' μ' H', Le F μ F' μ' → Rel K Z F' μ' c σ' H' → RepX K F' μ' cls od e → W cls od σ' H'
  | .no => False
theorem PostS.le {K : PySem.W.Frag} {Z F F' : Hp} {μ μ' : List Addr} {W : WX} {r : R Fl} {D : Ends} (le : Le F μ F' μ') (h : PostS K Z F μ W r D) : PostS K Z F' μ' W r D := by
  cases r with
  | ok a c =>
    cases a with
    | nx => exact fun σ F2 μ2 H2 l r => h σ F2 μ2 H2 (le.trans l) r
    | rt d => exact fun v σ F2 μ2 H2 l r x => h v σ F2 μ2 H2 (le.trans l) r x
    | bk => exact fun σ F2 μ2 H2 l r => h σ F2 μ2 H2 (le.trans l) r
    | ct => exact fun σ F2 μ2 H2 l r => h σ F2 μ2 H2 (le.trans l) r
  | ex e c => exact fun cls od σ F2 μ2 H2 l r x => h cls od σ F2 μ2 H2 (le.trans l) r x
  | no => exact h
def StS (K : PySem.W.Frag) (W : WX) (ts : TS) (ds : M Fl) : Prop := ∀ (Z F : Hp) (μ : List Addr) (c : Stt) (σ : St) (H : Hp) (D : Ends), Rel K Z F μ c σ H → PostS K Z F μ W (ds c) D → ts D σ H
structure SD (X : Cx) (W : WX) (st : Stmt) (t : TS) (d : M Fl) : Prop where
  ps : PS X st t
  ev : StS X.K W t d
structure BD (X : Cx) (W : WX) (st : List Stmt) (t : TS) (d : M Fl) : Prop where
  ps : PSs X st t
  ev : StS X.K W t d
/-- behind an expression of a statement -/
theorem PostS.bind {K : PySem.W.Frag} {Z F : Hp} {μ : List Addr} {W : WX} {α : Type} {m : M α} {f : α → M Fl} {c : Stt} {D : Ends} {σ : St} (h : PostS K Z F μ W (M.bind m f c) D) : Post K Z F μ σ W (m c) (fun a c' F' μ' H' => PostS K Z F' μ' W (f a c') D) := by
  unfold M.bind at h
  cases e : m c with
  | ok a c' => rw [e] at h; exact fun F2 μ2 H2 l r => PostS.le l h
  | ex x c' => rw [e] at h; exact fun cls od F' μ' H' l r x => h cls od σ F' μ' H' l r x
  | no => rw [e] at h; exact h

/-! ### targets -/
theorem wipe_set {σ : St} {j : Nat} {y : Option V} : ∀ {us : List Nat}, j ∈ us → wipe (σ.set j y) us = wipe σ us
  | [], h => by simp at h
  | u :: us, h => by
    unfold wipe
    by_cases hj : j ∈ us
    · rw [wipe_set hj]
    · have e : j = u := by
        rcases List.mem_cons.mp h with e | e
        · exact e
        · exact absurd e hj
      subst e
      have key : ∀ (us : List Nat) (σ : St), (wipe (σ.set j y) us).set j none = (wipe σ us).set j none := by
        intro us
        induction us with
        | nil => intro σ; unfold wipe; rw [List.set_set]
        | cons v vs ih =>
          intro σ
          unfold wipe
          by_cases hv : v = j
          · subst hv
            rw [ih]
          · rw [List.set_comm _ _ hv, List.set_comm _ _ hv, ih]
      exact key us σ
def EvG (K : PySem.W.Frag) (vs : List Nat) (g : TG) (dg : D → M Unit) : Prop := ∀ (Z F : Hp) (μ : List Addr) (c : Stt) (σ : St) (H : Hp) (Q : St → Hp → Prop) (v : V) (x : D), Rel K Z F μ c σ H → Rep K F μ v x →
  (∃ c', dg x c = .ok () c' ∧ ∀ σ', Rel K Z F μ c' σ' H → (∀ us, (∀ j ∈ vs, j ∈ us) → wipe σ' us = wipe σ us) → Q σ' H) → g v σ H Q
def EvGs (K : PySem.W.Frag) (vs : List Nat) (g : TGs) (dg : List D → M Unit) : Prop := ∀ (Z F : Hp) (μ : List Addr) (c : Stt) (σ : St) (H : Hp) (Q : St → Hp → Prop) (us : List V) (xs : List D), Rel K Z F μ c σ H → Reps K F μ us xs →
  (∃ c', dg xs c = .ok () c' ∧ ∀ σ', Rel K Z F μ c' σ' H → (∀ us, (∀ j ∈ vs, j ∈ us) → wipe σ' us = wipe σ us) → Q σ' H) → g us σ H Q
structure GD (X : Cx) (tg : Expr) (vs : List Nat) (g : TG) (d : D → M Unit) : Prop where
  pg : PG X tg g
  ev : EvG X.K vs g d
structure GDs (X : Cx) (tg : List Expr) (vs : List Nat) (g : TGs) (d : List D → M Unit) : Prop where
  pg : PGs X tg g
  ev : EvGs X.K vs g d
def dName (i : Nat) (x : D) : M Unit := fun c => .ok () ⟨c.r.set i (.d x), c.S⟩
section
variable {X : Cx} {W : WX} {pos : Pos} {e : Expr} {t : TE}
theorem gd_name {i : Nat} {x : Str} (hN : X.N.Nodup) (hi : X.N[i]? = some x) (hx : Loc X.env.scope x) (hf : X.fn x = true ∨ X.env.scope.names.lookup x = some .local := by first | exact .inl rfl | exact .inr rfl | assumption) : GD X (.Name x pos) [i] (gName i) (dName i) :=
  ⟨pg_name hN hi hx hf, fun Z F μ c σ H Q v x R r ⟨c', e, k⟩ => by
    cases e
    exact k _ (R.setD r) fun us hu => wipe_set (hu i (List.mem_singleton.mpr rfl))⟩
def dUnit (xs : List D) : M Unit := fun c => match xs with
  | [] => .ok () c
  | _ => .no
def dConsG (dg : D → M Unit) (dr : List D → M Unit) (xs : List D) : M Unit := match xs with
  | x :: r => M.bind (dg x) fun _ => dr r
  | [] => M.no
theorem gds_nil : GDs X [] [] gNil dUnit := ⟨pgs_nil, fun Z F μ c σ H Q us xs R r ⟨c', e, k⟩ => by
  cases r with
  | nil => cases e; exact ⟨rfl, k σ R fun _ _ => rfl⟩
  | cons _ _ => cases e⟩
theorem gds_cons {tg : Expr} {es : List Expr} {v1 v2 : List Nat} {g1 : TG} {g2 : TGs} {d1 : D → M Unit} {d2 : List D → M Unit} (h1 : GD X tg v1 g1 d1) (h2 : GDs X es v2 g2 d2)
    (hs : (assignEach (tg :: es) X.env).map (·.2) = assign tg X.env :: (assignEach es X.env).map (·.2) := by rfl) : GDs X (tg :: es) (v1 ++ v2) (gCons g1 g2) (dConsG d1 d2) :=
  ⟨pgs_cons h1.pg h2.pg hs, fun Z F μ c σ H Q us xs R r ⟨c', e, k⟩ => by
    cases r with
    | nil => cases e
    | cons r1 rr =>
      refine ⟨_, _, rfl, ?_⟩
      unfold dConsG M.bind at e
      dsimp only at e
      cases q : d1 _ c with
      | no => rw [q] at e; cases e
      | ex _ _ => rw [q] at e; cases e
      | ok a c1 =>
        rw [q] at e
        exact h1.ev Z F μ c σ H _ _ _ R r1 ⟨c1, q, fun σ1 R1 w1 => h2.ev Z F μ c1 σ1 H Q _ _ R1 rr ⟨c', e, fun σ2 R2 w2 => k σ2 R2 fun us hu => (w2 us fun j hj => hu j (List.mem_append_right _ hj)).trans (w1 us fun j hj => hu j (List.mem_append_left _ hj))⟩⟩⟩
def dTupG (n : Nat) (dr : List D → M Unit) (x : D) : M Unit := fun c => match x with
  | .tup ds => if ds.length = n then dr ds c else .no
  | _ => .no
theorem gd_tup {K : PySem.W.Frag} {es : List Expr} {k n : Nat} {vs : List Nat} {g : TGs} {d : List D → M Unit} (hc : X.calm = true) (h : GDs X es vs g d) (hn : (assignEach es X.env).length = n := by rfl) (hst : (assignEach es X.env).findIdx? (·.1) = none := by rfl) (hK : X.K = K := by rfl) :
    GD X (.Tuple es k pos) vs (gTup K n g) (dTupG n d) := by
  subst hK
  exact ⟨pg_tup hc h.pg hn hst, fun Z F μ c σ H Q v x R r ⟨c', e, k⟩ => by
    unfold dTupG at e
    split at e
    · next ds =>
      split at e
      · next hl =>
        cases r with
        | tup hs rs => exact ⟨_, _, rfl, Same.seqT R.ex hs, by rw [rs.length]; exact hl, h.ev Z F μ c σ H Q _ _ R rs ⟨c', e, k⟩⟩
      · cases e
    · cases e⟩

/-! ### small statements -/
def dNx : M Fl := M.pure .nx
theorem bd_nil : BD X W [] tNext dNx := ⟨pss_nil, fun Z F μ c σ H D R p => p σ F μ H (Le.refl _ _) R⟩
def dSeq (a b : M Fl) : M Fl := M.bind a fun f => match f with
  | .nx => b
  | f => M.pure f
theorem bd_cons {st : Stmt} {rest : List Stmt} {t u : TS} {a b : M Fl} (h1 : SD X W st t a) (h2 : BD X W rest u b) : BD X W (st :: rest) (tSeq t u) (dSeq a b) :=
  ⟨pss_cons h1.ps h2.ps, fun Z F μ c σ H D R p => h1.ev Z F μ c σ H _ R (by
    unfold dSeq M.bind at p
    cases e : a c with
    | ok f c1 =>
      rw [e] at p
      cases f with
      | nx => exact fun σ' F' μ' H' l R' => h2.ev Z F' μ' c1 σ' H' D R' (p.le l)
      | rt d => exact p
      | bk => exact p
      | ct => exact p
    | ex x c1 => rw [e] at p; exact p
    | no => rw [e] at p; exact p)⟩
theorem bd_one {st : Stmt} {t : TS} {a : M Fl} (h : SD X W st t a) : BD X W [st] t a := ⟨pss_one h.ps, h.ev⟩
theorem sd_pass : SD X W (.Pass pos) tNext dNx := ⟨ps_pass, fun Z F μ c σ H D R p => p σ F μ H (Le.refl _ _) R⟩
theorem sd_break : SD X W (.Break pos) tBreak (M.pure .bk) := ⟨ps_break, fun Z F μ c σ H D R p => p σ F μ H (Le.refl _ _) R⟩
theorem sd_continue : SD X W (.Continue pos) tCont (M.pure .ct) := ⟨ps_continue, fun Z F μ c σ H D R p => p σ F μ H (Le.refl _ _) R⟩
theorem sd_doc {x : Str} {j : Nat} {pos' : Pos} : SD X W (.Expr (.Constant (.str x) j pos) pos') tNext dNx := ⟨ps_doc, fun Z F μ c σ H D R p => p σ F μ H (Le.refl _ _) R⟩
def dDrop {α : Type} (m : M α) : M Fl := M.bind m fun _ => M.pure .nx
theorem sd_expr {d : M O} (h : ED X W e t d) (hs : swapsWith e none pos.line X.env = pure false := by rfl) : SD X W (.Expr e pos) (tDrop t) (dDrop d) :=
  ⟨ps_expr h.pe hs, fun Z F μ c σ H D R p => h.ev Z F μ c σ H _ R (p.bind.imp fun o c1 F1 μ1 H1 l1 R1 p1 v r => p1 σ F1 μ1 H1 (Le.refl _ _) R1)⟩
def dRet (m : M D) : M Fl := M.bind m fun d => M.pure (.rt d)
theorem sd_ret {d : M D} (h : DD X W e t d) : SD X W (.Return (some e) pos) (tRet t) (dRet d) :=
  ⟨ps_ret h.pe, fun Z F μ c σ H D R p => h.ev Z F μ c σ H _ R (p.bind.imp fun x c1 F1 μ1 H1 l1 R1 p1 v r => p1 v σ F1 μ1 H1 (Le.refl _ _) R1 r)⟩
theorem sd_retN : SD X W (.Return none pos) tRetN (M.pure (.rt (.v .non))) := ⟨ps_retN, fun Z F μ c σ H D R p => p _ σ F μ H (Le.refl _ _) R (.v _)⟩
def dIfS (b : M Bool) (x y : M Fl) : M Fl := M.bind b fun k => if k = true then x else y
theorem sd_if {tc : TT} {t u : TS} {db : M Bool} {x y : M Fl} {as bs : List Stmt} (hc : TD X W e tc db) (ha : BD X W as t x) (hb : BD X W bs u y) : SD X W (.If e as bs pos) (tIfS tc t u) (dIfS db x y) :=
  ⟨ps_if hc.pt ha.ps hb.ps, fun Z F μ c σ H D R p => hc.ev Z F μ c σ H _ R (p.bind.imp fun k c1 F1 μ1 H1 l1 R1 p1 => by
    cases k with
    | true => exact ha.ev Z F1 μ1 c1 σ H1 D R1 p1
    | false => exact hb.ev Z F1 μ1 c1 σ H1 D R1 p1)⟩
theorem sd_never {st : Stmt} : SD X W st tNever M.no := ⟨ps_never, fun Z F μ c σ H D R p => p⟩
/-- name = value -/
def dSet (i : Nat) (m : M D) : M Fl := M.bind m fun x => M.bind (dName i x) fun _ => M.pure .nx
theorem sd_set {i : Nat} {x : Str} {pos' : Pos} {d : M D} (hN : X.N.Nodup) (hi : X.N[i]? = some x) (hx : Loc X.env.scope x) (h : DD X W e t d) (hs : swapsWith e (some (.Name x pos')) pos.line X.env = pure false := by rfl) (hf : X.fn x = true ∨ X.env.scope.names.lookup x = some .local := by first | exact .inl rfl | exact .inr rfl | assumption) :
    SD X W (.Assign [.Name x pos'] e pos) (tAsg t (gName i)) (dSet i d) :=
  ⟨ps_set hN hi hx h.pe hs hf, fun Z F μ c σ H D R p => h.ev Z F μ c σ H _ R (p.bind.imp fun y c1 F1 μ1 H1 l1 R1 p1 v r => p1 _ F1 μ1 H1 (Le.refl _ _) (R1.setD r))⟩
/-- name = a new list, which is the name's own -/
def dSetN (i : Nat) (m : M (List D)) : M Fl := M.bind m fun ds c => .ok .nx ⟨c.r.set i (.own (.lst ds)), c.S⟩
theorem ev_setN {K : PySem.W.Frag} {i : Nat} {d : M (List D)} (h : EvN K W t d) : StS K W (tAsg t (gName i)) (dSetN i d) := fun Z F μ c σ H D R p =>
  h Z F μ c σ H _ R (p.bind.imp fun ds c1 F1 μ1 H1 l1 R1 p1 q vs hq n r => p1 _ F1 μ1 H1 (Le.refl _ _) (R1.setOwn hq n.f n.z n.no n.nm (.lst r) (by intro z; cases z)))
theorem sd_setN {i : Nat} {x : Str} {pos' : Pos} {d : M (List D)} (hN : X.N.Nodup) (hi : X.N[i]? = some x) (hx : Loc X.env.scope x) (h : EN X W e t d) (hs : swapsWith e (some (.Name x pos')) pos.line X.env = pure false := by rfl) (hf : X.fn x = true ∨ X.env.scope.names.lookup x = some .local := by first | exact .inl rfl | exact .inr rfl | assumption) :
    SD X W (.Assign [.Name x pos'] e pos) (tAsg t (gName i)) (dSetN i d) := ⟨ps_set hN hi hx h.pe hs hf, ev_setN h.ev⟩
/-- target = value -/
theorem sd_asg {tg : Expr} {vs : List Nat} {g : TG} {dg : D → M Unit} {d : M D} (h : DD X W e t d) (hg : GD X tg vs g dg) (hs : swapsWithSole [tg] e pos.line X.env = pure false := by rfl) (hw : swappedStores [tg] e X.env = pure none := by rfl)
    (h1 : (assignEach [tg] X.env).map (·.2) = [assign tg X.env] := by rfl) : SD X W (.Assign [tg] e pos) (tAsg t g) (M.bind d fun x => M.bind (M.ne (dg x)) fun _ => M.pure .nx) :=
  ⟨ps_asg h.pe hg.pg hs hw h1, fun Z F μ c σ H D R p => h.ev Z F μ c σ H _ R (p.bind.imp fun y c1 F1 μ1 H1 l1 R1 p1 v r => by
    unfold M.bind M.ne at p1
    cases q : dg y c1 with
    | no => rw [q] at p1; exact p1.elim
    | ex x c2 => rw [q] at p1; exact p1.elim
    | ok a c2 => rw [q] at p1; exact hg.ev Z F1 μ1 c1 σ H1 _ v y R1 r ⟨c2, q, fun σ' R' _ => p1 σ' F1 μ1 H1 (Le.refl _ _) R'⟩)⟩

/-! ### op= -/
def dAug (i : Nat) (g : O → O → M D) (de : M O) : M Fl := fun c => match c.r[i]? with
  | some (.d x) => M.bind de (fun o => M.bind (g (.d x) o) fun y => M.bind (dName i y) fun _ => M.pure .nx) c
  | _ => .no
theorem sd_aug {i : Nat} {x : Str} {op : Operator} {ti : TIp} {g : O → O → M D} {pos' : Pos} {de : M O} (hN : X.N.Nodup) (hi : X.N[i]? = some x) (hx : Loc X.env.scope x) (ho : PIp X op ti) (hr : R2S X.K W ti g) (h : ED X W e t de) (hf : X.fn x = true ∨ X.env.scope.names.lookup x = some .local := by first | exact .inl rfl | exact .inr rfl | assumption) :
    SD X W (.AugAssign (.Name x pos') op e pos) (tAug i t ti) (dAug i g de) :=
  ⟨ps_aug hN hi hx h.pe ho hf, fun Z F μ c σ H D R p => by
    unfold dAug at p
    split at p
    · next d hd =>
      obtain ⟨v, e1, e2⟩ := R.slot i d hd
      exact ⟨v, e1, h.ev Z F μ c σ H _ R (p.bind.imp fun o c1 F1 μ1 H1 l1 R1 p1 v1 r1 => hr Z F1 μ1 c1 σ H1 _ v v1 _ o R1 (.d (e2.mono l1)) r1 (p1.bind.imp fun y c2 F2 μ2 H2 l2 R2 p2 v2 r2 => p2 _ F2 μ2 H2 (Le.refl _ _) (R2.setD r2)))⟩
    · exact p.elim⟩
theorem ip_addS : PIp X .Add (fun x y H Q => ∃ i j, x = .str i ∧ y = .str j ∧ i.length + j.length ≤ sizeLine ∧ Q (.str (i ++ j)) H) := fun pins s σ H x y v u Q I rx ry h => iop_add_str pins s σ H x y v u Q I rx ry h
theorem r2_ipadd {K : PySem.W.Frag} : R2S K W (ipI fun i j => i + j) (gI fun i j => some (.int (i + j))) := r2_int fun i j v H Q e q => ⟨i, j, rfl, rfl, by cases e; exact q⟩
theorem r2_ipsub {K : PySem.W.Frag} : R2S K W (ipI fun i j => i - j) (gI fun i j => some (.int (i - j))) := r2_int fun i j v H Q e q => ⟨i, j, rfl, rfl, by cases e; exact q⟩
/-- a, b = x, y -/
def dPar (i j : Nat) (dr : M (List D)) : M Fl := M.bind dr fun ds c => match ds with
  | [x, y] => .ok .nx ⟨(c.r.set i (.d x)).set j (.d y), c.S⟩
  | _ => .no
theorem sd_par {i j : Nat} {x y : Str} {a b : Expr} {ta : TA} {px py pt : Pos} {kt k2 : Nat} {pt2 : Pos} {dr : M (List D)} (hc : X.calm = true) (hN : X.N.Nodup) (hi : X.N[i]? = some x) (hj : X.N[j]? = some y) (hij : i ≠ j)
    (hx : X.env.scope.names.lookup x = some .local) (hy : X.env.scope.names.lookup y = some .local) (ha : AD X W [a, b] ta dr)
    (hw : swappedStores [.Tuple [.Name x px, .Name y py] kt pt] (.Tuple [a, b] k2 pt2) X.env = pure (some [x, y]))
    (hs : swapsWithSole [.Tuple [.Name x px, .Name y py] kt pt] (.Tuple [a, b] k2 pt2) pos.line X.env = pure false := by rfl) :
    SD X W (.Assign [.Tuple [.Name x px, .Name y py] kt pt] (.Tuple [a, b] k2 pt2) pos) (tPar i j ta) (dPar i j dr) :=
  ⟨ps_par hc hN hi hj hij hx hy ha.pa hw hs, fun Z F μ c σ H D R p => ha.ev Z F μ c σ H _ R (p.bind.imp fun ds c1 F1 μ1 H1 l1 R1 p1 vs r => by
    split at p1
    · cases r with
      | cons r1 r =>
        cases r with
        | cons r2 r =>
          cases r
          exact ⟨_, _, rfl, p1 _ F1 μ1 H1 (Le.refl _ _) ((R1.setD r1).setD r2)⟩
    · exact p1.elim)⟩

/-! ### while -/
def itW (dc : M Bool) (db : M Fl) : Nat → M Fl
  | 0 => M.no
  | n + 1 => M.bind dc fun k => if k = true then M.bind db fun f => match f with
      | .nx => itW dc db n
      | .ct => itW dc db n
      | .bk => M.pure .nx
      | .rt d => M.pure (.rt d)
    else M.pure .nx
theorem itW_mono (dc : M Bool) (db : M Fl) : ∀ (n : Nat) (c : Stt), itW dc db n c ≠ .no → itW dc db (n + 1) c = itW dc db n c
  | 0, c, h => absurd rfl h
  | n + 1, c, h => by
    unfold itW M.bind at h ⊢
    cases q : dc c with
    | no => rfl
    | ex _ _ => rfl
    | ok k c1 =>
      rw [q] at h
      dsimp only at h ⊢
      cases k with
      | false => rfl
      | true =>
        rw [if_pos rfl] at h ⊢
        rw [if_pos rfl]
        cases q2 : db c1 with
        | no => rfl
        | ex _ _ => rfl
        | ok f c2 =>
          rw [q2] at h
          cases f with
          | nx => exact itW_mono dc db n c2 h
          | ct => exact itW_mono dc db n c2 h
          | bk => rfl
          | rt d => rfl
theorem itW_le {dc : M Bool} {db : M Fl} {n : Nat} {c : Stt} (h : itW dc db n c ≠ .no) : ∀ k, itW dc db (n + k) c = itW dc db n c
  | 0 => rfl
  | k + 1 => by
    have ih := itW_le h k
    rw [← Nat.add_assoc, itW_mono dc db (n + k) c (by rw [ih]; exact h), ih]
open Classical in
noncomputable def dWhile (dc : M Bool) (db : M Fl) : M Fl := fun c => if h : ∃ n, itW dc db n c ≠ .no then itW dc db h.choose c else .no
theorem dWhile_of {dc : M Bool} {db : M Fl} {n : Nat} {c : Stt} (h : itW dc db n c ≠ .no) : dWhile dc db c = itW dc db n c := by
  have hx : ∃ n, itW dc db n c ≠ .no := ⟨n, h⟩
  unfold dWhile
  rw [dif_pos hx]
  have h2 := hx.choose_spec
  rw [← itW_le h2 n, ← itW_le h hx.choose, Nat.add_comm]
theorem dWhile_eq (dc : M Bool) (db : M Fl) : dWhile dc db = M.bind dc fun k => if k = true then M.bind db fun f => match f with
      | .nx => dWhile dc db
      | .ct => dWhile dc db
      | .bk => M.pure .nx
      | .rt d => M.pure (.rt d)
    else M.pure .nx := by
  funext c
  have up : ∀ (n : Nat) (c : Stt), itW dc db (n + 1) c = (M.bind dc fun k => if k = true then M.bind db fun f => match f with
      | .nx => itW dc db n
      | .ct => itW dc db n
      | .bk => M.pure .nx
      | .rt d => M.pure (.rt d)
    else M.pure .nx) c := fun n c => rfl
  by_cases hx : ∃ n, itW dc db n c ≠ .no
  · obtain ⟨n, h⟩ := hx
    rw [dWhile_of h]
    cases n with
    | zero => exact absurd rfl h
    | succ n =>
      rw [up] at h ⊢
      unfold M.bind at h ⊢
      cases q : dc c with
      | no => rfl
      | ex _ _ => rfl
      | ok k c1 =>
        rw [q] at h
        dsimp only at h ⊢
        cases k with
        | false => rfl
        | true =>
          rw [if_pos rfl] at h ⊢
          rw [if_pos rfl]
          cases q2 : db c1 with
          | no => rfl
          | ex _ _ => rfl
          | ok f c2 =>
            rw [q2] at h
            cases f with
            | nx => exact (dWhile_of h).symm
            | ct => exact (dWhile_of h).symm
            | bk => rfl
            | rt d => rfl
  · have hn : ∀ n, itW dc db n c = .no := fun n => Classical.byContradiction fun h => hx ⟨n, h⟩
    have e1 : dWhile dc db c = .no := by unfold dWhile; rw [dif_neg hx]
    rw [e1]
    have h1 := hn 1
    rw [up] at h1
    unfold M.bind at h1 ⊢
    cases q : dc c with
    | no => rfl
    | ex _ _ => rw [q] at h1; cases h1
    | ok k c1 =>
      rw [q] at h1
      dsimp only at h1 ⊢
      cases k with
      | false => cases h1
      | true =>
        rw [if_pos rfl] at h1 ⊢
        cases q2 : db c1 with
        | no => rfl
        | ex _ _ => rw [q2] at h1; cases h1
        | ok f c2 =>
          have go : ∀ n, itW dc db n c2 = .no ∨ (f ≠ .nx ∧ f ≠ .ct) := fun n => by
            by_cases hf : f ≠ .nx ∧ f ≠ .ct
            · exact .inr hf
            · have hn1 := hn (n + 1)
              rw [up] at hn1
              unfold M.bind at hn1
              rw [q] at hn1
              dsimp only at hn1
              rw [if_pos rfl, q2] at hn1
              cases f with
              | nx => exact .inl hn1
              | ct => exact .inl hn1
              | bk => exact .inr ⟨(fun z => by cases z), (fun z => by cases z)⟩
              | rt d => exact .inr ⟨(fun z => by cases z), (fun z => by cases z)⟩
          have none2 : (f = .nx ∨ f = .ct) → dWhile dc db c2 = .no := fun hf => by
            unfold dWhile
            rw [dif_neg]
            rintro ⟨n, h⟩
            rcases go n with g | ⟨g1, g2⟩
            · exact h g
            · rcases hf with rfl | rfl
              · exact g1 rfl
              · exact g2 rfl
          cases f with
          | nx => exact (none2 (.inl rfl)).symm
          | ct => exact (none2 (.inr rfl)).symm
          | bk => rw [q2] at h1; cases h1
          | rt d => rw [q2] at h1; cases h1
theorem sd_while {body : List Stmt} {tc : TT} {tb : TS} {dc : M Bool} {db : M Fl} (hp : PassesOwn (model X.prog X.w) X.A X.env X.xe) (hc : TD X W e tc dc) (hb : BD X W body tb db) : SD X W (.While e body [] pos) (tWhile tc tb) (dWhile dc db) :=
  ⟨ps_while hp hc.pt hb.ps, fun Z F μ c σ H D R p => by
    unfold dWhile at p
    split at p
    · next hx =>
      generalize hx.choose = n at p
      refine ⟨fun m σ' H' => ∃ F' μ' c', Le F μ F' μ' ∧ Rel X.K Z F' μ' c' σ' H' ∧ PostS X.K Z F' μ' W (itW dc db m c') D, ⟨n, F, μ, c, Le.refl _ _, R, p⟩, ?_⟩
      rintro m σ1 H1 ⟨F1, μ1, c1, l1, R1, p1⟩
      cases m with
      | zero => exact p1.elim
      | succ m =>
        refine hc.ev Z F1 μ1 c1 σ1 H1 _ R1 (PostS.bind p1 |>.imp fun k c2 F2 μ2 H2 l2 R2 p2 => ?_)
        cases k with
        | false => exact p2 σ1 F2 μ2 H2 (Le.refl _ _) R2
        | true =>
          refine ⟨fun σ' H' => ∃ F' μ' c', Le F μ F' μ' ∧ Rel X.K Z F' μ' c' σ' H' ∧ PostS X.K Z F' μ' W (itW dc db m c') D, fun σ' H' h => ⟨m, Nat.lt_succ_self m, h⟩, ?_⟩
          refine hb.ev Z F2 μ2 c2 σ1 H2 _ R2 ?_
          rw [if_pos rfl] at p2
          unfold M.bind at p2
          cases q : db c2 with
          | no => rw [q] at p2; exact p2
          | ex x c3 => rw [q] at p2; exact p2
          | ok f c3 =>
            rw [q] at p2
            cases f with
            | nx => exact fun σ' F' μ' H' l R' => ⟨F', μ', c3, (l1.trans l2).trans l, R', p2.le l⟩
            | ct => exact fun σ' F' μ' H' l R' => ⟨F', μ', c3, (l1.trans l2).trans l, R', p2.le l⟩
            | bk => exact p2
            | rt d => exact p2
    · exact p.elim⟩

/-! ### what is walked -/
structure Wk (K : PySem.W.Frag) (F : Hp) (μ : List Addr) (J : It) (ds : List D) : Prop where
  go : ∀ i H, Same F H → i < ds.length → J.go i H
  stop : ∀ i H, Same F H → ds.length ≤ i → J.stop i H
  yld : ∀ i H x H', Same F H → i < ds.length → J.yld i H x H' → ∃ d, ds[i]? = some d ∧ ((H' = H ∧ Rep K F μ x d) ∨ ∃ T vs es, H T = none ∧ H' = upd H T (.tup vs) ∧ x = .ref T ∧ d = .tup es ∧ Reps K F μ vs es)
theorem Wk.mono {K : PySem.W.Frag} {F F' : Hp} {μ μ' : List Addr} {J : It} {ds : List D} (le : Le F μ F' μ') (h : Wk K F μ J ds) : Wk K F' μ' J ds :=
  ⟨fun i H s => h.go i H (le.ex.trans s), fun i H s => h.stop i H (le.ex.trans s), fun i H x H' s hi y => by
    obtain ⟨d, e, q⟩ := h.yld i H x H' (le.ex.trans s) hi y
    refine ⟨d, e, ?_⟩
    rcases q with ⟨e1, r⟩ | ⟨T, vs, es, h1, h2, h3, h4, r⟩
    · exact .inl ⟨e1, r.mono le⟩
    · exact .inr ⟨T, vs, es, h1, h2, h3, h4, r.mono le⟩⟩
def EvI (K : PySem.W.Frag) (W : WX) (wi : TI) (di : M (List D)) : Prop := ∀ (Z F : Hp) (μ : List Addr) (c : Stt) (σ : St) (H : Hp) (P : It → Hp → Prop), Rel K Z F μ c σ H →
  Post K Z F μ σ W (di c) (fun ds _ F' μ' H' => ∀ J, Wk K F' μ' J ds → P J H') → wi σ H P
structure ID (X : Cx) (W : WX) (tg iter : Expr) (wi : TI) (di : M (List D)) : Prop where
  pi : PI X tg iter wi
  ev : EvI X.K W wi di
theorem wk_list {K : PySem.W.Frag} {F : Hp} {μ : List Addr} {a : Addr} {vs : List V} {ds : List D} (h : SqL K F a vs) (r : Reps K F μ vs ds) : Wk K F μ (Itl K a) ds where
  go := fun i H s hi => by
    have hj : i < vs.length := by rw [r.length]; exact hi
    exact ⟨vs, vs[i], s.seq h, List.getElem?_eq_getElem hj⟩
  stop := fun i H s hi => ⟨vs, s.seq h, by rw [r.length]; exact hi⟩
  yld := fun i H x H' s hi ⟨e, y⟩ => by
    obtain ⟨d, e1, r1⟩ := r.getV (y vs (s.seq h))
    exact ⟨d, e1, .inl ⟨e, r1⟩⟩
theorem wk_tup {K : PySem.W.Frag} {F : Hp} {μ : List Addr} {a : Addr} {vs : List V} {ds : List D} (h : SqT K F a vs) (r : Reps K F μ vs ds) : Wk K F μ (Itt K a) ds where
  go := fun i H s hi => by
    have hj : i < vs.length := by rw [r.length]; exact hi
    exact ⟨vs, vs[i], Same.seqT s h, List.getElem?_eq_getElem hj⟩
  stop := fun i H s hi => ⟨vs, Same.seqT s h, by rw [r.length]; exact hi⟩
  yld := fun i H x H' s hi ⟨e, y⟩ => by
    obtain ⟨d, e1, r1⟩ := r.getV (y vs (Same.seqT s h))
    exact ⟨d, e1, .inl ⟨e, r1⟩⟩
def rngD (lo : Int) (n : Nat) : List D := (List.range n).map fun k => .v (.int (lo + (k : Nat)))
theorem wk_range {K : PySem.W.Frag} {F : Hp} {μ : List Addr} {lo : Int} {n : Nat} : Wk K F μ (Itr lo n) (rngD lo n) where
  go := fun i H s hi => by
    have : i < n := by simpa [rngD] using hi
    exact this
  stop := fun i H s hi => by
    have : n ≤ i := by simpa [rngD] using hi
    exact this
  yld := fun i H x H' s hi ⟨e, y⟩ => by
    have hi' : i < n := by simpa [rngD] using hi
    refine ⟨.v (.int (lo + (i : Nat))), ?_, .inl ⟨e, by rw [y]; exact .v _⟩⟩
    unfold rngD
    rw [List.getElem?_map, List.getElem?_range hi']
    rfl
def sgnD (x : Str) : List D := x.cps.toList.map fun k => .v (.str ⟨#[k]⟩)
theorem wk_str {K : PySem.W.Frag} {F : Hp} {μ : List Addr} {x : Str} : Wk K F μ (Its x) (sgnD x) where
  go := fun i H s hi => by
    have : i < x.cps.size := by simpa [sgnD] using hi
    exact this
  stop := fun i H s hi => by
    have : x.cps.size ≤ i := by simpa [sgnD] using hi
    exact this
  yld := fun i H v H' s hi ⟨e, k, y, hv⟩ => by
    refine ⟨.v (.str ⟨#[k]⟩), ?_, .inl ⟨e, by rw [hv]; exact .v _⟩⟩
    unfold sgnD
    rw [List.getElem?_map, Array.getElem?_toList, y]
    rfl
def enuD (ds : List D) : List D := (List.range ds.length).map fun k => .tup [.v (.int (k : Nat)), ds.getD k (.v .non)]
theorem wk_enum {K : PySem.W.Frag} {F : Hp} {μ : List Addr} {a : Addr} {vs : List V} {ds : List D} (h : SqL K F a vs) (r : Reps K F μ vs ds) : Wk K F μ (Ite K a) (enuD ds) where
  go := fun i H s hi => by
    have hi : i < ds.length := by simpa [enuD] using hi
    have hj : i < vs.length := by rw [r.length]; exact hi
    exact ⟨vs, vs[i], s.seq h, List.getElem?_eq_getElem hj⟩
  stop := fun i H s hi => ⟨vs, s.seq h, by rw [r.length]; simpa [enuD] using hi⟩
  yld := fun i H v H' s hi ⟨T, x, e1, e2, e3, y⟩ => by
    have hi : i < ds.length := by simpa [enuD] using hi
    obtain ⟨d, e4, r1⟩ := r.getV (y vs (s.seq h))
    refine ⟨_, ?_, .inr ⟨T, _, _, e2, e3, e1, rfl, .cons (.v (.int (i : Nat))) (.cons r1 .nil)⟩⟩
    unfold enuD
    rw [List.getElem?_map, List.getElem?_range hi]
    simp [List.getD, e4]
theorem wk_zip {K : PySem.W.Frag} {F : Hp} {μ : List Addr} {a b : Addr} {vs ws : List V} {ds es : List D} (h : SqL K F a vs) (h' : SqL K F b ws) (r : Reps K F μ vs ds) (r' : Reps K F μ ws es) : Wk K F μ (Itz K a b) ((ds.zip es).map fun p => .tup [p.1, p.2]) where
  go := fun i H s hi => by
    have hi : i < ds.length ∧ i < es.length := by simpa [Nat.lt_min] using hi
    have h1 : i < vs.length := by rw [r.length]; exact hi.1
    have h2 : i < ws.length := by rw [r'.length]; exact hi.2
    exact ⟨vs, ws, vs[i], ws[i], s.seq h, s.seq h', List.getElem?_eq_getElem h1, List.getElem?_eq_getElem h2⟩
  stop := fun i H s hi => ⟨vs, ws, s.seq h, s.seq h', by
    rw [r.length, r'.length]
    simp at hi
    omega⟩
  yld := fun i H v H' s hi ⟨T, x, y, e1, e2, e3, y1, y2⟩ => by
    obtain ⟨d1, e4, r1⟩ := r.getV (y1 vs (s.seq h))
    obtain ⟨d2, e5, r2⟩ := r'.getV (y2 ws (s.seq h'))
    refine ⟨.tup [d1, d2], ?_, .inr ⟨T, _, _, e2, e3, e1, rfl, .cons r1 (.cons r2 .nil)⟩⟩
    have e6 : (ds.zip es)[i]? = some (d1, d2) := List.getElem?_zip_eq_some.mpr ⟨e4, e5⟩
    rw [List.getElem?_map, e6]
    rfl
/-- a list, a tuple, a text -/
def iAny (K : PySem.W.Frag) (t : TE) : TI := fun σ H P => iList K t σ H P ∨ iTup K t σ H P ∨ iStr t σ H P
theorem pi_any {tg l : Expr} {tl : TE} (hl : PE X l tl) : PI X tg l (iAny X.K tl) := by
  refine ⟨fun pins s σ H P I h => ?_⟩
  rcases h with h | h | h
  · exact (pi_list hl).run pins s σ H P I h
  · exact (pi_tup hl).run pins s σ H P I h
  · exact (pi_str hl).run pins s σ H P I h
def seqX : D → M (List D)
  | .lst ds => M.pure ds
  | .scr ds => M.pure ds
  | .tup ds => M.pure ds
  | .v (.str x) => M.pure (sgnD x)
  | _ => M.no
theorem id_any {K : PySem.W.Frag} {tg l : Expr} {tl : TE} {dd : M D} (h : DD X W l tl dd) (hK : X.K = K := by rfl) : ID X W tg l (iAny K tl) (M.bind dd seqX) := by
  subst hK
  exact ⟨pi_any h.pe, fun Z F μ c σ H P R p => by
    cases e : dd c with
    | no =>
      unfold M.bind at p
      rw [e] at p
      exact p.elim
    | ex x c1 =>
      unfold M.bind at p
      rw [e] at p
      exact .inl (h.ev Z F μ c σ H _ R (by rw [e]; exact p))
    | ok x c1 =>
      have p1 := p.bind
      rw [e] at p1
      cases x with
      | lst ds =>
        refine .inl (h.ev Z F μ c σ H _ R (by
          rw [e]
          refine fun F' μ' H' l R' v r => ?_
          cases r with
          | lst hs rs =>
            have hq : SqL X.K F' _ _ := .of hs
            exact ⟨_, rfl, ⟨_, R'.ex.seq hq⟩, p1 F' μ' H' l R' F' μ' H' (Le.refl _ _) R' _ (wk_list hq rs)⟩))
      | scr ds =>
        refine .inl (h.ev Z F μ c σ H _ R (by
          rw [e]
          refine fun F' μ' H' l R' v r => ?_
          cases r with
          | scr hq rs => exact ⟨_, rfl, ⟨_, R'.ex.seq hq⟩, p1 F' μ' H' l R' F' μ' H' (Le.refl _ _) R' _ (wk_list hq rs)⟩))
      | tup ds =>
        refine .inr (.inl (h.ev Z F μ c σ H _ R (by
          rw [e]
          refine fun F' μ' H' l R' v r => ?_
          cases r with
          | tup hq rs => exact ⟨_, rfl, ⟨_, Same.seqT R'.ex hq⟩, p1 F' μ' H' l R' F' μ' H' (Le.refl _ _) R' _ (wk_tup hq rs)⟩)))
      | v z =>
        cases z with
        | str x =>
          refine .inr (.inr (h.ev Z F μ c σ H _ R (by
            rw [e]
            refine fun F' μ' H' l R' v r => ?_
            cases r
            exact ⟨_, rfl, p1 F' μ' H' l R' F' μ' H' (Le.refl _ _) R' _ wk_str⟩)))
        | _ =>
          unfold M.bind at p
          rw [e] at p
          exact p.elim
      | _ =>
        unfold M.bind at p
        rw [e] at p
        exact p.elim⟩
end
end My

set_option Elab.async false
set_option linter.all false
set_option maxRecDepth 100000
set_option maxHeartbeats 4000000
/-! F6: for, comprehensions, a def's promise. -/
namespace My
open PySem L2
section
variable {X : Cx} {W : WX} {pos : Pos} {e : Expr} {t : TE}

/-! ### range, enumerate, zip -/
def rngX (ds : List D) : M (List D) := match ds with
  | [.v (.int j)] => if j < 2 ^ 62 then M.pure (if -(2 ^ 62) ≤ j then rngD 0 j.toNat else []) else M.no
  | [.v (.int i), .v (.int j)] => if -(2 ^ 62) ≤ i ∧ i < 2 ^ 62 ∧ -(2 ^ 62) ≤ j ∧ j < 2 ^ 62 then M.pure (rngD i (j - i).toNat) else M.no
  | _ => M.no
def rng1X (ds : List D) : M (List D) := match ds with
  | [.v (.int j)] => if -(2 ^ 62) ≤ j ∧ j < 2 ^ 62 then M.pure (rngD 0 j.toNat) else M.no
  | _ => M.no
def rng2X (ds : List D) : M (List D) := match ds with
  | [.v (.int i), .v (.int j)] => if -(2 ^ 62) ≤ i ∧ i < 2 ^ 62 ∧ -(2 ^ 62) ≤ j ∧ j < 2 ^ 62 then M.pure (rngD i (j - i).toNat) else M.no
  | _ => M.no
theorem id_range1 {tg a : Expr} {ta : TA} {p : Pos} {da : M (List D)} (hg : Gl X "range") (hm : X.mg "range" = none) (ha : AD X W [a] ta da) (hs : starEach [a] X.env = [(false, eval a X.env)] := by rfl) :
    ID X W tg (.Call (.Name "range" p) [a] [] pos) (iRng1 ta) (M.bind da rng1X) :=
  ⟨pi_range1 hg hm ha.pa hs, fun Z F μ c σ H P R p => ha.ev Z F μ c σ H _ R (p.bind.imp fun ds c1 F1 μ1 H1 l1 R1 p1 vs rs => by
    unfold rng1X at p1
    split at p1
    · next j =>
      split at p1
      · next hz =>
        cases rs with
        | cons r rs =>
          cases r
          cases rs
          exact ⟨j, rfl, hz.1, hz.2, p1 F1 μ1 H1 (Le.refl _ _) R1 _ wk_range⟩
      · exact p1.elim
    · exact p1.elim)⟩
theorem id_range2 {tg a b : Expr} {ta : TA} {p : Pos} {da : M (List D)} (hg : Gl X "range") (hm : X.mg "range" = none) (ha : AD X W [a, b] ta da) (hs : starEach [a, b] X.env = [(false, eval a X.env), (false, eval b X.env)] := by rfl) (hs2 : starEach [b] X.env = [(false, eval b X.env)] := by rfl) :
    ID X W tg (.Call (.Name "range" p) [a, b] [] pos) (iRng2 ta) (M.bind da rng2X) :=
  ⟨pi_range2 hg hm ha.pa hs hs2, fun Z F μ c σ H P R p => ha.ev Z F μ c σ H _ R (p.bind.imp fun ds c1 F1 μ1 H1 l1 R1 p1 vs rs => by
    unfold rng2X at p1
    split at p1
    · next i j =>
      split at p1
      · next hz =>
        cases rs with
        | cons r rs =>
          cases r
          cases rs with
          | cons r rs =>
            cases r
            cases rs
            exact ⟨i, j, rfl, hz, p1 F1 μ1 H1 (Le.refl _ _) R1 _ wk_range⟩
      · exact p1.elim
    · exact p1.elim)⟩
def enuX (ds : List D) : M (List D) := match ds with
  | [.lst es] => M.pure (enuD es)
  | [.scr es] => M.pure (enuD es)
  | _ => M.no
theorem id_enum {K : PySem.W.Frag} {a : Expr} {ta : TA} {p tpos : Pos} {elts : List Expr} {kk : Nat} {da : M (List D)} (hg : Gl X "enumerate") (hm : X.mg "enumerate" = none) (ha : AD X W [a] ta da) (hs : starEach [a] X.env = [(false, eval a X.env)] := by rfl) (hK : X.K = K := by rfl) :
    ID X W (.Tuple elts kk tpos) (.Call (.Name "enumerate" p) [a] [] pos) (iEnum K ta) (M.bind da enuX) := by
  subst hK
  exact ⟨pi_enum hg hm ha.pa hs, fun Z F μ c σ H P R p => ha.ev Z F μ c σ H _ R (p.bind.imp fun ds c1 F1 μ1 H1 l1 R1 p1 vs rs => by
    unfold enuX at p1
    split at p1
    · next es =>
      cases rs with
      | cons r rs =>
        cases rs
        cases r with
        | lst hs r =>
          have hq : SqL X.K F1 _ _ := .of hs
          exact ⟨_, _, rfl, R1.ex.seq hq, p1 F1 μ1 H1 (Le.refl _ _) R1 _ (wk_enum hq r)⟩
    · next es =>
      cases rs with
      | cons r rs =>
        cases rs
        cases r with
        | scr hq r => exact ⟨_, _, rfl, R1.ex.seq hq, p1 F1 μ1 H1 (Le.refl _ _) R1 _ (wk_enum hq r)⟩
    · exact p1.elim)⟩
def zipX (ds : List D) : M (List D) := match ds with
  | [.lst xs, .lst ys] => M.pure ((xs.zip ys).map fun p => .tup [p.1, p.2])
  | _ => M.no
theorem id_zip {K : PySem.W.Frag} {a b : Expr} {ta : TA} {p tpos : Pos} {elts : List Expr} {kk : Nat} {da : M (List D)} (hg : Gl X "zip") (hm : X.mg "zip" = none) (ha : AD X W [a, b] ta da)
    (hs : starEach [a, b] X.env = (false, eval a X.env) :: starEach [b] X.env := by rfl) (hpl : (backTo pos (starEach [b] X.env)).any (·.1) = false := by rfl) (hK : X.K = K := by rfl) :
    ID X W (.Tuple elts kk tpos) (.Call (.Name "zip" p) [a, b] [] pos) (iZip K ta) (M.bind da zipX) := by
  subst hK
  exact ⟨pi_zip hg hm ha.pa hs hpl, fun Z F μ c σ H P R p => ha.ev Z F μ c σ H _ R (p.bind.imp fun ds c1 F1 μ1 H1 l1 R1 p1 vs rs => by
    unfold zipX at p1
    split at p1
    · next xs ys =>
      cases rs with
      | cons r1 rs =>
        cases rs with
        | cons r2 rs =>
          cases rs
          cases r1 with
          | lst h1 r1 =>
            cases r2 with
            | lst h2 r2 =>
              have q1 : SqL X.K F1 _ _ := .of h1
              have q2 : SqL X.K F1 _ _ := .of h2
              exact ⟨_, _, _, _, rfl, R1.ex.seq q1, R1.ex.seq q2, p1 F1 μ1 H1 (Le.refl _ _) R1 _ (wk_zip q1 q2 r1 r2)⟩
    · exact p1.elim)⟩

/-! ### for -/
def itF (dg : D → M Unit) (db : M Fl) : List D → M Fl
  | [] => M.pure .nx
  | d :: r => M.bind (M.ne (dg d)) fun _ => M.bind db fun f => match f with
      | .nx => itF dg db r
      | .ct => itF dg db r
      | .bk => M.pure .nx
      | .rt x => M.pure (.rt x)
def dFor (di : M (List D)) (dg : D → M Unit) (db : M Fl) : M Fl := M.bind di fun ds => itF dg db ds
theorem sd_for {tg iter : Expr} {body : List Stmt} {wi : TI} {vs : List Nat} {g : TG} {tb : TS} {di : M (List D)} {dg : D → M Unit} {db : M Fl} (hp : PassesOwn (model X.prog X.w) X.A X.env X.xe) (hc : X.calm = true) (hi : ID X W tg iter wi di) (hg : GD X tg vs g dg) (hb : BD X W body tb db)
    (hs : ∀ x, foldedSetIterable iter X.env x = pure x := by intro _; rfl) : SD X W (.For tg iter body [] pos) (tFor wi g tb) (dFor di dg db) := by
  refine ⟨ps_for hp hc hi.pi hg.pg hb.ps hs, fun Z F μ c σ H D R p => hi.ev Z F μ c σ H _ R (PostS.bind p |>.imp fun ds c1 F1 μ1 H1 l1 R1 p1 J wk => ?_)⟩
  refine ⟨fun i m σ' H' => m = ds.length - i ∧ i ≤ ds.length ∧ ∃ F' μ' c', Le F1 μ1 F' μ' ∧ Rel X.K Z F' μ' c' σ' H' ∧ PostS X.K Z F' μ' W (itF dg db (ds.drop i) c') D, ⟨ds.length, by simp, Nat.zero_le _, F1, μ1, c1, Le.refl _ _, R1, p1⟩, ?_⟩
  rintro i m σ2 H2 ⟨rfl, hi2, F2, μ2, c2, l2, R2, p2⟩
  have wk2 := wk.mono l2
  by_cases hlt : i < ds.length
  · refine .inr ⟨wk2.go i H2 R2.ex hlt, fun σ' H' => ∃ F' μ' c', Le F1 μ1 F' μ' ∧ Rel X.K Z F' μ' c' σ' H' ∧ PostS X.K Z F' μ' W (itF dg db (ds.drop (i + 1)) c') D, fun σ' H' h => ⟨_, by omega, rfl, hlt, h⟩, fun x H' y => ?_⟩
    obtain ⟨d, e1, q⟩ := wk2.yld i H2 x H' R2.ex hlt y
    have ed : ds.drop i = d :: ds.drop (i + 1) := by
      rw [List.drop_eq_getElem_cons hlt]
      rw [List.getElem?_eq_getElem hlt] at e1
      rw [Option.some.inj e1]
    rw [ed] at p2
    -- the item, as it stands behind the iterator's turn
    obtain ⟨F3, l3, R3, r3⟩ : ∃ F3, Le F2 μ2 F3 μ2 ∧ Rel X.K Z F3 μ2 c2 σ2 H' ∧ Rep X.K F3 μ2 x d := by
      rcases q with ⟨rfl, r⟩ | ⟨T, us, es, h1, rfl, rfl, rfl, r⟩
      · exact ⟨F2, Le.refl _ _, R2, r⟩
      · obtain ⟨R3, l3⟩ := R2.new (o := .tup us) h1
        exact ⟨_, l3, R3, .tup (.of upd_same) (r.mono l3)⟩
    unfold itF M.bind M.ne at p2
    cases q2 : dg d c2 with
    | no => rw [q2] at p2; exact p2.elim
    | ex _ _ => rw [q2] at p2; exact p2.elim
    | ok u c3 =>
      rw [q2] at p2
      refine hg.ev Z F3 μ2 c2 σ2 H' _ x d R3 r3 ⟨c3, q2, fun σ3 R4 _ => hb.ev Z F3 μ2 c3 σ3 H' _ R4 ?_⟩
      have p3 := p2.le l3
      dsimp only at p3
      cases q3 : db c3 with
      | no => rw [q3] at p3; exact p3
      | ex _ _ => rw [q3] at p3; exact p3
      | ok f c4 =>
        rw [q3] at p3
        cases f with
        | nx => exact fun σ' F' μ' H4 l R' => ⟨F', μ', c4, (l2.trans l3).trans l, R', p3.le l⟩
        | ct => exact fun σ' F' μ' H4 l R' => ⟨F', μ', c4, (l2.trans l3).trans l, R', p3.le l⟩
        | bk => exact p3
        | rt d => exact p3
  · have e1 : ds.drop i = [] := List.drop_eq_nil_of_le (by omega)
    rw [e1] at p2
    exact .inl ⟨wk2.stop i H2 R2.ex (by omega), p2 σ2 F2 μ2 H2 (Le.refl _ _) R2⟩

/-! ### comprehensions -/
def wipeD (r : List Slot) : List Nat → List Slot
  | [] => r
  | v :: vs => (wipeD r vs).set v .no
theorem rel_no {K : PySem.W.Frag} {Z F : Hp} {μ : List Addr} {c : Stt} {σ : St} {H : Hp} (h : Rel K Z F μ c σ H) (i : Nat) (y : Option V) : Rel K Z F μ ⟨c.r.set i .no, c.S⟩ (σ.set i y) H := by
  have key : ∀ (j : Nat) (z : Slot), z ≠ .no → (c.r.set i .no)[j]? = some z → j ≠ i ∧ c.r[j]? = some z := fun j z hz q => by
    by_cases hj : j = i
    · subst hj
      rw [List.getElem?_set] at q
      simp at q
      exact absurd q.2.symm hz
    · rw [List.getElem?_set_ne (Ne.symm hj)] at q; exact ⟨hj, q⟩
  refine { ex := h.ex, exz := h.exz, fz := h.fz, len := by simpa using h.len, slot := fun j y q => ?_, own := fun j m q => ?_, dis := fun j k a m m' q1 q2 e1 e2 => ?_, lm := h.lm, sto := h.sto, dst := fun j n a m q e1 e2 => ?_, ndm := h.ndm }
  · obtain ⟨hj, q⟩ := key j _ (fun z => by cases z) q
    rw [List.getElem?_set_ne (Ne.symm hj)]
    exact h.slot j y q
  · obtain ⟨hj, q⟩ := key j _ (fun z => by cases z) q
    rw [List.getElem?_set_ne (Ne.symm hj)]
    exact h.own j m q
  · obtain ⟨hj, q1⟩ := key j _ (fun z => by cases z) q1
    obtain ⟨hk, q2⟩ := key k _ (fun z => by cases z) q2
    rw [List.getElem?_set_ne (Ne.symm hj)] at e1
    rw [List.getElem?_set_ne (Ne.symm hk)] at e2
    exact h.dis j k a m m' q1 q2 e1 e2
  · obtain ⟨hj, q⟩ := key j _ (fun z => by cases z) q
    rw [List.getElem?_set_ne (Ne.symm hj)] at e1
    exact h.dst j n a m q e1 e2
theorem rel_wipe {K : PySem.W.Frag} {Z F : Hp} {μ : List Addr} {c : Stt} {σ : St} {H : Hp} (h : Rel K Z F μ c σ H) : ∀ vs : List Nat, Rel K Z F μ ⟨wipeD c.r vs, c.S⟩ (wipe σ vs) H
  | [] => h
  | v :: vs => rel_no (rel_wipe h vs) v none
/-- the slots vs as they were -/
def backD (r0 r : List Slot) : List Nat → List Slot
  | [] => r
  | v :: vs => (backD r0 r vs).set v (match r0[v]? with
    | some (.d x) => .d x
    | _ => .no)
theorem back_get {r0 r : List Slot} {j : Nat} {z : Slot} : ∀ {vs : List Nat}, (backD r0 r vs)[j]? = some z → (j ∈ vs ∧ (z = .no ∨ ∃ x, z = .d x ∧ r0[j]? = some (.d x))) ∨ (j ∉ vs ∧ r[j]? = some z)
  | [], q => .inr ⟨by simp, q⟩
  | v :: vs, q => by
    unfold backD at q
    by_cases hj : j = v
    · subst hj
      refine .inl ⟨List.mem_cons_self, ?_⟩
      have hl : j < (backD r0 r vs).length := by
        have := (List.getElem?_eq_some_iff.mp q).1
        simpa using this
      rw [List.getElem?_set_self hl] at q
      cases q
      split
      · next x hx => exact .inr ⟨x, rfl, hx⟩
      · exact .inl rfl
    · rw [List.getElem?_set_ne (Ne.symm hj)] at q
      rcases back_get q with ⟨h1, h2⟩ | ⟨h1, h2⟩
      · exact .inl ⟨List.mem_cons_of_mem _ h1, h2⟩
      · exact .inr ⟨fun z => by rcases List.mem_cons.mp z with z | z; exact hj z; exact h1 z, h2⟩
theorem back_len {r0 r : List Slot} : ∀ vs : List Nat, (backD r0 r vs).length = r.length
  | [] => rfl
  | v :: vs => by unfold backD; rw [List.length_set, back_len vs]
theorem rel_back {K : PySem.W.Frag} {Z F F' : Hp} {μ μ' : List Addr} {c c' : Stt} {σ : St} {H H' : Hp} (h : Rel K Z F μ c σ H) (le : Le F μ F' μ') (vs : List Nat) (h' : Rel K Z F' μ' c' (wipe σ vs) H') : Rel K Z F' μ' ⟨backD c.r c'.r vs, c'.S⟩ σ H' := by
  have key : ∀ (j : Nat) (m : Cell), (backD c.r c'.r vs)[j]? = some (.own m) → c'.r[j]? = some (.own m) ∧ (wipe σ vs)[j]? = σ[j]? := fun j m q => by
    rcases back_get q with ⟨_, h2⟩ | ⟨h1, h2⟩
    · rcases h2 with h2 | ⟨x, h2, _⟩ <;> cases h2
    · exact ⟨h2, wipe_out h1⟩
  refine { ex := h'.ex, exz := h'.exz, fz := h'.fz, len := ?_, slot := fun j y q => ?_, own := fun j m q => ?_, dis := fun j k a m m' q1 q2 e1 e2 => ?_, lm := h'.lm, sto := h'.sto, dst := fun j n a m q e1 e2 => ?_, ndm := h'.ndm }
  · have := h'.len
    rw [wipe_length] at this
    rw [this]
    exact (back_len vs).symm
  · rcases back_get q with ⟨_, h2⟩ | ⟨h1, h2⟩
    · rcases h2 with h2 | ⟨x, h2, h3⟩
      · cases h2
      · cases h2
        obtain ⟨v, e1, e2⟩ := h.slot j y h3
        exact ⟨v, e1, e2.mono le⟩
    · obtain ⟨v, e1, e2⟩ := h'.slot j y h2
      rw [wipe_out h1] at e1
      exact ⟨v, e1, e2⟩
  · obtain ⟨q1, w⟩ := key j m q
    rw [← w]
    exact h'.own j m q1
  · obtain ⟨q1, w1⟩ := key j m q1
    obtain ⟨q2, w2⟩ := key k m' q2
    rw [← w1] at e1
    rw [← w2] at e2
    exact h'.dis j k a m m' q1 q2 e1 e2
  · obtain ⟨q, w⟩ := key j m q
    rw [← w] at e1
    exact h'.dst j n a m q e1 e2
/-- an object laid aside -/
theorem rel_aside {K : PySem.W.Frag} {Z F : Hp} {μ : List Addr} {c : Stt} {σ : St} {H : Hp} {p : Addr} {o : HO} (h : Rel K Z F μ c σ H) (hp : H p = some o) (n : Nob Z F μ c σ p) : Rel K (upd Z p o) F μ c σ H :=
  { ex := h.ex, exz := fun a x e => (by
      by_cases ha : a = p
      · subst ha; rw [upd_same] at e; cases e; exact hp
      · rw [upd_ne ha] at e; exact h.exz a x e), fz := fun a x e => (by
      by_cases ha : a = p
      · subst ha; exact n.f
      · rw [upd_ne ha] at e; exact h.fz a x e), len := h.len, slot := h.slot, own := fun i m q => (by
      obtain ⟨a, e1, c1, g1⟩ := h.own i m q
      have : a ≠ p := fun z => by subst z; exact n.no i m q e1
      exact ⟨a, e1, ⟨by rw [upd_ne this]; exact c1.z, c1.f, c1.o⟩, g1⟩), dis := h.dis, lm := h.lm, sto := fun k a m e1 e2 => (by
      have c1 := h.sto k a m e1 e2
      have : a ≠ p := fun z => by subst z; exact n.nm k e1
      exact ⟨by rw [upd_ne this]; exact c1.z, c1.f, c1.o⟩), dst := h.dst, ndm := h.ndm }
/-- .. is nobody's -/
theorem aside_nob {K : PySem.W.Frag} {Z F : Hp} {μ : List Addr} {c : Stt} {σ : St} {H : Hp} {p : Addr} {o : HO} (h : Rel K (upd Z p o) F μ c σ H) (hz : Z p = none) : Rel K Z F μ c σ H ∧ Nob Z F μ c σ p ∧ H p = some o := by
  have zs : ∀ a x, Z a = some x → upd Z p o a = some x := fun a x e => by
    have : a ≠ p := fun z => by subst z; rw [hz] at e; cases e
    rw [upd_ne this]; exact e
  have zn : ∀ a, upd Z p o a = none → Z a = none ∧ a ≠ p := fun a e => by
    have : a ≠ p := fun z => by subst z; rw [upd_same] at e; cases e
    rw [upd_ne this] at e
    exact ⟨e, this⟩
  refine ⟨{ ex := h.ex, exz := fun a x e => h.exz a x (zs a x e), fz := fun a x e => h.fz a x (zs a x e), len := h.len, slot := h.slot, own := fun i m q => (by
      obtain ⟨a, e1, c1, g1⟩ := h.own i m q
      exact ⟨a, e1, ⟨(zn a c1.z).1, c1.f, c1.o⟩, g1⟩), dis := h.dis, lm := h.lm, sto := fun k a m e1 e2 => (by
      have c1 := h.sto k a m e1 e2
      exact ⟨(zn a c1.z).1, c1.f, c1.o⟩), dst := h.dst, ndm := h.ndm }, ⟨h.fz p o upd_same, hz, fun i m q e => ?_, fun k e => ?_⟩, h.exz p o upd_same⟩
  · obtain ⟨a, e1, c1, _⟩ := h.own i m q
    rw [e] at e1; cases e1
    exact (zn _ c1.z).2 rfl
  · have hk : k < c.S.length := by rw [← h.lm]; exact (List.getElem?_eq_some_iff.mp e).1
    exact (zn _ (h.sto k p _ e (List.getElem?_eq_getElem hk)).z).2 rfl
/-- .. is written -/
theorem aside_put {K : PySem.W.Frag} {Z F : Hp} {μ : List Addr} {c : Stt} {σ : St} {H : Hp} {p : Addr} {o o' : HO} (h : Rel K (upd Z p o) F μ c σ H) (hz : Z p = none) : Rel K (upd Z p o') F μ c σ (upd H p o') := by
  obtain ⟨h1, n, hp⟩ := aside_nob h hz
  refine rel_aside (H := upd H p o') ?_ upd_same n
  have ne : ∀ {a : Addr} {x : HO}, F a = some x → a ≠ p := fun {a x} e z => by subst z; rw [n.f] at e; cases e
  refine { ex := fun a x e => (by rw [upd_ne (ne e)]; exact h1.ex a x e), exz := fun a x e => (by
      have : a ≠ p := fun z => by subst z; rw [hz] at e; cases e
      rw [upd_ne this]; exact h1.exz a x e), fz := h1.fz, len := h1.len, slot := h1.slot, own := fun i m q => (by
      obtain ⟨a, e1, c1, g1⟩ := h1.own i m q
      have : a ≠ p := fun z => by subst z; exact n.no i m q e1
      exact ⟨a, e1, ⟨c1.z, c1.f, (let ⟨u, e2, e3⟩ := c1.o; ⟨u, by rw [upd_ne this]; exact e2, e3⟩)⟩, g1⟩), dis := h1.dis, lm := h1.lm, sto := fun k a m e1 e2 => (by
      have c1 := h1.sto k a m e1 e2
      have : a ≠ p := fun z => by subst z; exact n.nm k e1
      exact ⟨c1.z, c1.f, (let ⟨u, e2, e3⟩ := c1.o; ⟨u, by rw [upd_ne this]; exact e2, e3⟩)⟩), dst := h1.dst, ndm := h1.ndm }

def itL (dg : D → M Unit) (dt : M Bool) (de : M D) (vs : List Nat) (r0 : List Slot) : List D → List D → M (List D)
  | [], acc => fun c => .ok acc ⟨wipeD c.r vs, c.S⟩
  | d :: r, acc => fun c => M.bind (M.ne (dg d)) (fun _ => M.bind (M.ne dt) fun k => if k = true then M.bind (M.ne de) fun y => fun c => if acc.length < 1000000 then itL dg dt de vs r0 r (acc ++ [y]) c else .no
    else itL dg dt de vs r0 r acc) ⟨wipeD c.r vs, c.S⟩
def dLc (di : M (List D)) (dg : D → M Unit) (dt : M Bool) (de : M D) (vs : List Nat) : M (List D) := M.bind di fun ds c => M.bind (itL dg dt de vs c.r ds []) (fun ys c' => .ok ys ⟨backD c.r c'.r vs, c'.S⟩) c
structure TsD (X : Cx) (W : WX) (ifs : List Expr) (t : TT) (d : M Bool) : Prop where
  pt : PTs X ifs t
  ev : EvT X.K W t d
theorem tsd_nil : TsD X W [] tYes (M.pure true) := ⟨pts_nil, fun Z F μ c σ H Q R p => p F μ H (Le.refl _ _) R⟩
theorem tsd_one {t : TT} {d : M Bool} (h : TD X W e t d) : TsD X W [e] t d := ⟨pts_one h.pt, h.ev⟩
theorem en_lc {W' : WX} {elt tg iter : Expr} {ifs : List Expr} {scope : Scope} {own : List (Str × Nat)} {wi : TI} {vs : List Nat} {g : TG} {tt : TT} {te : TE} {di : M (List D)} {dg : D → M Unit} {dt : M Bool} {de : M D} (hc : X.calm = true) (hN : X.N.Nodup) (hi : ID X W tg iter wi di) (ok : BlkOk X.N X.env.scope scope own)
    (hg : ∀ (s : Shared) (H : Hp) (C : Addr) (cl : List (Str × Addr)) (fp : List Addr), GD (X.blk s H scope (compEnvC scope cl C X.env) fp) tg vs g dg) (ht : ∀ (s : Shared) (H : Hp) (C : Addr) (cl : List (Str × Addr)) (fp : List Addr), TsD (X.blk s H scope (compEnvC scope cl C X.env) fp) W' ifs tt dt)
    (he : ∀ (s : Shared) (H : Hp) (C : Addr) (cl : List (Str × Addr)) (fp : List Addr), DD (X.blk s H scope (compEnvC scope cl C X.env) fp) W' elt te de) (hv : ∀ j ∈ vs, j ∈ own.map (·.2) := by decide) (hs : ∀ x, foldedSetIterable iter X.env x = pure x := by intro _; rfl) :
    EN X W (.ListComp elt [⟨tg, iter, ifs, 0⟩] scope pos) (tLc wi g tt te (own.map (·.2))) (dLc di dg dt de (own.map (·.2))) := by
  have eg : EvG X.K vs g dg := (hg {} (fun _ => none) 0 [] []).ev
  have et : EvT X.K W' tt dt := (ht {} (fun _ => none) 0 [] []).ev
  have ee : EvD X.K W' te de := (he {} (fun _ => none) 0 [] []).ev
  refine ⟨pe_lc hc hN hi.pi ok (fun s H C cl fp => (hg s H C cl fp).pg) (fun s H C cl fp => (ht s H C cl fp).pt) (fun s H C cl fp => (he s H C cl fp).pe) hs, fun Z F μ c σ H Q R p => ?_⟩
  generalize own.map (·.2) = us at hv p ⊢
  refine hi.ev Z F μ c σ H _ R (p.bind.imp fun ds c1 F1 μ1 H1 l1 R1 p1 J wk A hA => ?_)
  have nA := R1.nob hA
  have zA : Z A = none := nA.z
  -- what holds between two turns
  refine ⟨fun i m H' => m = ds.length - i ∧ i ≤ ds.length ∧ ∃ F' μ' c' ws acc, Le F1 μ1 F' μ' ∧ Rel X.K (upd Z A (.lst ws)) F' μ' ⟨wipeD c'.r us, c'.S⟩ (wipe σ us) H' ∧ Reps X.K F' μ' ws acc ∧ acc.length ≤ 1000000 ∧
      Post X.K Z F' μ' σ W (M.bind (itL dg dt de us c1.r (ds.drop i) acc) (fun ys c' => .ok ys ⟨backD c1.r c'.r us, c'.S⟩) c') (fun ds c' F' μ' H' => ∀ p vs, H' p = some (.lst vs) → Nob Z F' μ' c' σ p → Reps X.K F' μ' vs ds → Q (.ref p) H'),
    ⟨ds.length, by simp, Nat.zero_le _, F1, μ1, c1, [], [], Le.refl _ _, rel_wipe (rel_aside (R1.up (same_new hA)) upd_same ?_) us, .nil, Nat.zero_le _, p1⟩, ?_⟩
  · exact nA
  rintro i m H2 ⟨rfl, hi2, F2, μ2, c2, ws, acc, l2, R2, ra, hz, p2⟩
  have wk2 := wk.mono l2
  by_cases hlt : i < ds.length
  · refine .inr ⟨wk2.go i H2 R2.ex hlt, fun H' => ∃ F' μ' c' ws acc, Le F1 μ1 F' μ' ∧ Rel X.K (upd Z A (.lst ws)) F' μ' ⟨wipeD c'.r us, c'.S⟩ (wipe σ us) H' ∧ Reps X.K F' μ' ws acc ∧ acc.length ≤ 1000000 ∧
      Post X.K Z F' μ' σ W (M.bind (itL dg dt de us c1.r (ds.drop (i + 1)) acc) (fun ys c' => .ok ys ⟨backD c1.r c'.r us, c'.S⟩) c') (fun ds c' F' μ' H' => ∀ p vs, H' p = some (.lst vs) → Nob Z F' μ' c' σ p → Reps X.K F' μ' vs ds → Q (.ref p) H'),
      fun H' h => ⟨_, by omega, rfl, hlt, h⟩, fun x H' y => ?_⟩
    obtain ⟨d, e1, q⟩ := wk2.yld i H2 x H' R2.ex hlt y
    have ed : ds.drop i = d :: ds.drop (i + 1) := by
      rw [List.drop_eq_getElem_cons hlt]
      rw [List.getElem?_eq_getElem hlt] at e1
      rw [Option.some.inj e1]
    rw [ed] at p2
    obtain ⟨F3, l3, R3, r3⟩ : ∃ F3, Le F2 μ2 F3 μ2 ∧ Rel X.K (upd Z A (.lst ws)) F3 μ2 ⟨wipeD c2.r us, c2.S⟩ (wipe σ us) H' ∧ Rep X.K F3 μ2 x d := by
      rcases q with ⟨rfl, r⟩ | ⟨T, xs, es, h1, rfl, rfl, rfl, r⟩
      · exact ⟨F2, Le.refl _ _, R2, r⟩
      · obtain ⟨R3, l3⟩ := R2.new (o := .tup xs) h1
        exact ⟨_, l3, R3, .tup (.of upd_same) (r.mono l3)⟩
    replace p2 := p2.le l3
    have ra3 := ra.mono l3
    unfold itL at p2
    unfold M.bind M.ne at p2
    dsimp only at p2
    cases q2 : dg d ⟨wipeD c2.r us, c2.S⟩ with
    | no => rw [q2] at p2; exact p2.elim
    | ex _ _ => rw [q2] at p2; exact p2.elim
    | ok u c3 =>
      rw [q2] at p2
      dsimp only at p2
      refine eg _ F3 μ2 _ (wipe σ us) H' _ x d R3 r3 ⟨c3, q2, fun σ3 R4 w3 => ?_⟩
      have ew : wipe σ3 us = wipe σ us := by
        rw [w3 us hv]
        have ww : ∀ vs : List Nat, (∀ j ∈ vs, j ∈ us) → wipe (wipe σ vs) us = wipe σ us := by
          intro vs
          induction vs with
          | nil => intro _; rfl
          | cons v vs ih =>
            intro hh
            show wipe ((wipe σ vs).set v none) us = wipe σ us
            rw [wipe_set (hh v List.mem_cons_self)]
            exact ih fun j hj => hh j (List.mem_cons_of_mem _ hj)
        exact ww us fun _ h => h
      refine ⟨ew, et _ F3 μ2 c3 σ3 H' _ R4 ?_⟩
      cases q3 : dt c3 with
      | no => rw [q3] at p2; exact p2.elim
      | ex _ _ => rw [q3] at p2; exact p2.elim
      | ok k c4 =>
        rw [q3] at p2
        dsimp only at p2
        refine fun F4 μ4 H4 l4 R5 => ?_
        replace p2 := p2.le l4
        cases k with
        | false =>
          refine ⟨F4, μ4, c4, ws, acc, (l2.trans l3).trans l4, ?_, ra3.mono l4, hz, p2⟩
          have := rel_wipe R5 us
          rw [ew] at this
          exact this
        | true =>
          rw [if_pos rfl] at p2
          show te σ3 H4 _
          refine ee _ F4 μ4 c4 σ3 H4 _ R5 ?_
          cases q4 : de c4 with
          | no => rw [q4] at p2; exact p2.elim
          | ex _ _ => rw [q4] at p2; exact p2.elim
          | ok z c5 =>
            rw [q4] at p2
            dsimp only at p2
            refine fun F5 μ5 H5 l5 R6 v rv => ?_
            replace p2 := p2.le l5
            have ra5 := (ra3.mono l4).mono l5
            obtain ⟨_, _, hA5⟩ := aside_nob R6 zA
            by_cases hz5 : acc.length < 1000000
            · rw [if_pos hz5] at p2
              have hw : ws.length < sizeLine := Nat.lt_of_lt_of_le (by rw [ra5.length]; exact hz5) (small6 (Nat.le_refl _))
              refine ⟨ws, hA5, hw, F5, μ5, c5, ws ++ [v], acc ++ [z], ((l2.trans l3).trans l4).trans l5, ?_, ra5.snoc rv, by rw [List.length_append, List.length_singleton]; exact hz5, p2⟩
              have := rel_wipe (aside_put R6 zA (o' := .lst (ws ++ [v]))) us
              rw [ew] at this
              exact this
            · rw [if_neg hz5] at p2
              exact p2.elim
  · have e1 : ds.drop i = [] := List.drop_eq_nil_of_le (by omega)
    rw [e1] at p2
    obtain ⟨R3, n3, hA3⟩ := aside_nob R2 zA
    have R4 := rel_back R1 l2 us R3
    exact .inl ⟨wk2.stop i H2 R2.ex (by omega), p2 F2 μ2 H2 (Le.refl _ _) R4 A ws hA3 ⟨n3.f, n3.z, fun j m' q e => by
      obtain ⟨a, e2, c2', _⟩ := R4.own j m' q
      rw [e] at e2; cases e2
      rcases back_get q with ⟨_, h2⟩ | ⟨h1, h2⟩
      · rcases h2 with h2 | ⟨x, h2, _⟩ <;> cases h2
      · exact n3.no j m' h2 (by rw [wipe_out h1]; exact e), n3.nm⟩ ra⟩
theorem sd_setLc {W' : WX} {i : Nat} {y : Str} {py spos : Pos} {elt tg iter : Expr} {ifs : List Expr} {scope : Scope} {own : List (Str × Nat)} {wi : TI} {vs : List Nat} {g : TG} {tt : TT} {te : TE} {di : M (List D)} {dg : D → M Unit} {dt : M Bool} {de : M D} (hc : X.calm = true) (hN : X.N.Nodup) (hy : X.N[i]? = some y) (hyl : X.env.scope.names.lookup y = some .local)
    (hsw : swapsWith (.ListComp elt [⟨tg, iter, ifs, 0⟩] scope pos) (some (.Name y py)) spos.line X.env = pure true) (hi : ID X W tg iter wi di) (ok : BlkOk X.N X.env.scope scope own)
    (hg : ∀ (s : Shared) (H : Hp) (C : Addr) (cl : List (Str × Addr)) (fp : List Addr), GD (X.blk s H scope (compEnvC scope cl C X.env) fp) tg vs g dg) (ht : ∀ (s : Shared) (H : Hp) (C : Addr) (cl : List (Str × Addr)) (fp : List Addr), TsD (X.blk s H scope (compEnvC scope cl C X.env) fp) W' ifs tt dt)
    (he : ∀ (s : Shared) (H : Hp) (C : Addr) (cl : List (Str × Addr)) (fp : List Addr), DD (X.blk s H scope (compEnvC scope cl C X.env) fp) W' elt te de) (hv : ∀ j ∈ vs, j ∈ own.map (·.2) := by decide) (hs : ∀ x, foldedSetIterable iter X.env x = pure x := by intro _; rfl) :
    SD X W (.Assign [.Name y py] (.ListComp elt [⟨tg, iter, ifs, 0⟩] scope pos) spos) (tAsg (tLc wi g tt te (own.map (·.2))) (gName i)) (dSetN i (dLc di dg dt de (own.map (·.2)))) :=
  ⟨ps_setLc hc hN hy hyl hsw hi.pi ok (fun s H C cl fp => (hg s H C cl fp).pg) (fun s H C cl fp => (ht s H C cl fp).pt) (fun s H C cl fp => (he s H C cl fp).pe) hs, ev_setN (en_lc (pos := pos) hc hN hi ok hg ht he hv hs).ev⟩
end

/-! ### a def -/
/-- what a body computes: n slots, k operands -/
def runD (n k : Nat) (b : M Fl) : G := fun ds S => if ds.length = k then match b ⟨ds.map .d ++ List.replicate (n - k) .no, S⟩ with
    | .ok (.rt d) c => .ok d c.S
    | .ok .nx c => .ok (.v .non) c.S
    | .ex e c => .ex e c.S
    | _ => .no
  else .no
theorem rel_start {K : PySem.W.Frag} {Z F : Hp} {μ : List Addr} {S : List Cell} {H : Hp} {vs : List V} {ds : List D} {N : List Str} {k : Nat} (h : Rel K Z F μ ⟨[], S⟩ [] H) (rs : Reps K F μ vs ds) (hk : ds.length = k) (hN : k ≤ N.length) :
    Rel K Z F μ ⟨ds.map .d ++ List.replicate (N.length - k) .no, S⟩ (L2.start N vs) H := by
  have hv : vs.length = k := by rw [rs.length]; exact hk
  have noown : ∀ (i : Nat) (m : Cell), (ds.map Slot.d ++ List.replicate (N.length - k) .no)[i]? ≠ some (.own m) := fun i m q => by
    rw [List.getElem?_append] at q
    split at q
    · rw [List.getElem?_map] at q
      cases e : ds[i]? with
      | none => rw [e] at q; cases q
      | some d => rw [e] at q; cases q
    · rw [List.getElem?_replicate] at q
      split at q <;> cases q
  refine { ex := h.ex, exz := h.exz, fz := h.fz, len := ?_, slot := fun i x q => ?_, own := fun i m q => absurd q (noown i m), dis := fun i j a m m' q => absurd q (noown i m), lm := h.lm, sto := h.sto, dst := fun i n a m q => absurd q (noown i m), ndm := h.ndm }
  · unfold L2.start
    simp [hv, hk]
  · have q : (ds.map Slot.d ++ List.replicate (N.length - k) Slot.no)[i]? = some (.d x) := q
    rw [List.getElem?_append] at q
    split at q
    · next hi =>
      rw [List.getElem?_map] at q
      cases e : ds[i]? with
      | none => rw [e] at q; cases q
      | some d =>
        rw [e] at q
        cases q
        obtain ⟨v, e1, r⟩ := rs.get e
        refine ⟨v, ?_, r⟩
        unfold L2.start
        rw [List.getElem?_append_left (by rw [List.length_map]; exact (List.getElem?_eq_some_iff.mp e1).1), List.getElem?_map, e1]
        rfl
    · rw [List.getElem?_replicate] at q
      split at q <;> cases q
theorem fn_ok {P : Program} {w : World} {K : PySem.W.Frag} {mg : Str → Option Value} {base : Heap} {x qual : Str} {st : Stmt} {f : Addr} {fd : FuncData} {N ps : List Str} {j k : Nat} {b : M Fl} (F : Fun K x qual st f fd) (S : FnScope N ps (defScope st)) (hk : ps.length = k) (hN : k ≤ N.length)
    (body : ∀ (cdv : Value) (A : Around) (outer : List Env) (s : Shared) (H : Hp) (E : XK), Room j (A.deeper (PyProof.Rows.envOfC qual (defScope st) s.heap.objs.size f cdv)) →
      ∃ t, BD (cxOf (L2.CX P w) P w K mg base N qual (defScope st) f cdv A outer s H E) (fun cls d _ H => E cls d H) (defBody st) t b) : FnOk P w K mg base (L2.CX P w) (j + 1) f fd ps (spG K (runD N.length k b)) := by
  refine F.okX S (fun vs H Q E h => ?_) (fun cdv A outer s H vs Q E hr h => ?_)
  · obtain ⟨Z, F, μ, S, ds, _, rs, p⟩ := h
    unfold runD at p
    split at p
    · next hl => rw [rs.length, hl, hk]
    · exact p.elim
  · obtain ⟨t, B⟩ := body cdv A outer s H E hr
    refine ⟨t, B.ps, ?_⟩
    obtain ⟨Z, F, μ, S, ds, R, rs, p⟩ := h
    unfold runD at p
    split at p
    · next hl =>
      refine B.ev Z F μ _ _ H _ (rel_start R rs hl hN) ?_
      have strip : ∀ {F' : Hp} {μ' : List Addr} {c : Stt} {σ' : St} {H' : Hp}, Rel K Z F' μ' c σ' H' → Rel K Z F' μ' ⟨[], c.S⟩ [] H' := fun h =>
        { ex := h.ex, exz := h.exz, fz := h.fz, len := rfl, slot := fun i x e => by simp at e, own := fun i x e => by simp at e, dis := fun i j a m m' e => by simp at e, lm := h.lm, sto := h.sto, dst := fun i n a m e => by simp at e, ndm := h.ndm }
      cases e : b ⟨ds.map .d ++ List.replicate (N.length - k) .no, S⟩ with
      | no => rw [e] at p; exact p.elim
      | ex x c => rw [e] at p; exact fun cls od σ' F' μ' H' l R' rx => p cls od F' μ' H' l (strip R') rx
      | ok fl c =>
        rw [e] at p
        cases fl with
        | nx => exact fun σ' F' μ' H' l R' => p .non F' μ' H' l (strip R') (.v _)
        | rt d => exact fun v σ' F' μ' H' l R' rv => p v F' μ' H' l (strip R') rv
        | bk => exact p.elim
        | ct => exact p.elim
    · exact p.elim
/-- another function that is no less defined -/
theorem FnOk.by {P : Program} {w : World} {K : PySem.W.Frag} {mg : Str → Option Value} {base : Heap} {CX : CXT} {k : Nat} {f : Addr} {fd : FuncData} {ps : List Str} {g g' : G} (F : FnOk P w K mg base CX k f fd ps (spG K g)) (h : ∀ ds S, g' ds S ≠ .no → g ds S = g' ds S) : FnOk P w K mg base CX k f fd ps (spG K g') :=
  L2.FnOk.imp F fun vs H Q E ⟨Z, F, μ, S, ds, R, rs, p⟩ => ⟨Z, F, μ, S, ds, R, rs, by
    have hn : g' ds S ≠ .no := fun z => by rw [z] at p; exact p
    rw [h ds S hn]
    exact p⟩
end My

set_option Elab.async false
set_option linter.all false
set_option maxRecDepth 100000
set_option maxHeartbeats 4000000
/-! F7: built-ins, slices, lists by their methods. -/
namespace My
open PySem L2

/-! ### lists of ints, of truths -/
def intsD : List D → Option (List Int)
  | [] => some []
  | .v (.int i) :: ds => (intsD ds).map (i :: ·)
  | _ => none
def blsD : List D → Option (List Bool)
  | [] => some []
  | .v (.bl b) :: ds => (blsD ds).map (b :: ·)
  | _ => none
def strsD : List D → Option (List Str)
  | [] => some []
  | .v (.str x) :: ds => (strsD ds).map (x :: ·)
  | _ => none
section
variable {K : PySem.W.Frag} {F : Hp} {μ : List Addr}
theorem ints_of : ∀ {ds : List D} {vs : List V} {ns : List Int}, Reps K F μ vs ds → intsD ds = some ns → vs = ns.map V.int
  | [], _, _, h, e => by cases h; unfold intsD at e; cases e; rfl
  | .v x :: ds, _, _, h, e => by
    cases h with
    | cons h r =>
      cases h
      cases x with
      | int i =>
        unfold intsD at e
        cases q : intsD ds with
        | none => rw [q] at e; cases e
        | some ms => rw [q] at e; cases e; rw [ints_of r q]; rfl
      | _ => unfold intsD at e; cases e
  | .tup _ :: _, _, _, _, e => by unfold intsD at e; cases e
  | .lst _ :: _, _, _, _, e => by unfold intsD at e; cases e
  | .scr _ :: _, _, _, _, e => by unfold intsD at e; cases e
  | .dct _ :: _, _, _, _, e => by unfold intsD at e; cases e
  | .ins _ _ :: _, _, _, _, e => by unfold intsD at e; cases e
  | .loc _ :: _, _, _, _, e => by unfold intsD at e; cases e
theorem bls_of : ∀ {ds : List D} {vs : List V} {ns : List Bool}, Reps K F μ vs ds → blsD ds = some ns → vs = ns.map V.bl
  | [], _, _, h, e => by cases h; unfold blsD at e; cases e; rfl
  | .v x :: ds, _, _, h, e => by
    cases h with
    | cons h r =>
      cases h
      cases x with
      | bl i =>
        unfold blsD at e
        cases q : blsD ds with
        | none => rw [q] at e; cases e
        | some ms => rw [q] at e; cases e; rw [bls_of r q]; rfl
      | _ => unfold blsD at e; cases e
  | .tup _ :: _, _, _, _, e => by unfold blsD at e; cases e
  | .lst _ :: _, _, _, _, e => by unfold blsD at e; cases e
  | .scr _ :: _, _, _, _, e => by unfold blsD at e; cases e
  | .dct _ :: _, _, _, _, e => by unfold blsD at e; cases e
  | .ins _ _ :: _, _, _, _, e => by unfold blsD at e; cases e
  | .loc _ :: _, _, _, _, e => by unfold blsD at e; cases e
theorem strs_of : ∀ {ds : List D} {vs : List V} {ns : List Str}, Reps K F μ vs ds → strsD ds = some ns → vs = ns.map V.str
  | [], _, _, h, e => by cases h; unfold strsD at e; cases e; rfl
  | .v x :: ds, _, _, h, e => by
    cases h with
    | cons h r =>
      cases h
      cases x with
      | str i =>
        unfold strsD at e
        cases q : strsD ds with
        | none => rw [q] at e; cases e
        | some ms => rw [q] at e; cases e; rw [strs_of r q]; rfl
      | _ => unfold strsD at e; cases e
  | .tup _ :: _, _, _, _, e => by unfold strsD at e; cases e
  | .lst _ :: _, _, _, _, e => by unfold strsD at e; cases e
  | .scr _ :: _, _, _, _, e => by unfold strsD at e; cases e
  | .dct _ :: _, _, _, _, e => by unfold strsD at e; cases e
  | .ins _ _ :: _, _, _, _, e => by unfold strsD at e; cases e
  | .loc _ :: _, _, _, _, e => by unfold strsD at e; cases e
end
/-- a list that may be read (no tuple) -/
def rdlD (c : Stt) : O → Option (List D)
  | .d (.scr ds) => some ds
  | o => lstD c o
theorem rdl_at {K : PySem.W.Frag} {Z F : Hp} {μ : List Addr} {c : Stt} {σ : St} {H : Hp} {v : V} {o : O} {ds : List D} (h : Rel K Z F μ c σ H) (r : RepO K F μ σ v o) (e : rdlD c o = some ds) : ∃ a vs, v = .ref a ∧ SqL K H a vs ∧ Reps K F μ vs ds := by
  unfold rdlD at e
  split at e
  · cases r with
    | d r =>
      cases r with
      | scr hq rs => cases e; exact ⟨_, _, rfl, h.ex.seq hq, rs⟩
  · obtain ⟨a, vs, e1, e2, e3⟩ := lst_at h r e
    exact ⟨a, vs, e1, .of e2, e3⟩
section
variable {K : PySem.W.Frag} {W : WX}
def gSum : O → M D := fun a c => match (rdlD c a).bind intsD with
  | some ns => .ok (.v (.int ns.sum)) c
  | none => .no
def gAll : O → M D := fun a c => match (rdlD c a).bind blsD with
  | some bs => .ok (.v (.bl (bs.all id))) c
  | none => .no
def gAny : O → M D := fun a c => match (rdlD c a).bind blsD with
  | some bs => .ok (.v (.bl (bs.any id))) c
  | none => .no
theorem c1_sum : C1S K W (rSum K) gSum := fun Z F μ c σ H Q x a R rx p => by
  unfold gSum at p
  split at p
  · next ns hn =>
    cases q : rdlD c a with
    | none => rw [q] at hn; cases hn
    | some ds =>
      rw [q] at hn
      obtain ⟨l, vs, rfl, h1, q1⟩ := rdl_at R rx q
      have := ints_of q1 hn
      subst this
      exact ⟨l, ns, rfl, h1, p F μ H (Le.refl _ _) R _ (.v _)⟩
  · exact p.elim
theorem c1_all : C1S K W (rAll K) gAll := fun Z F μ c σ H Q x a R rx p => by
  unfold gAll at p
  split at p
  · next ns hn =>
    cases q : rdlD c a with
    | none => rw [q] at hn; cases hn
    | some ds =>
      rw [q] at hn
      obtain ⟨l, vs, rfl, h1, q1⟩ := rdl_at R rx q
      have := bls_of q1 hn
      subst this
      exact ⟨l, ns, rfl, h1, p F μ H (Le.refl _ _) R _ (.v _)⟩
  · exact p.elim
theorem c1_any : C1S K W (rAny K) gAny := fun Z F μ c σ H Q x a R rx p => by
  unfold gAny at p
  split at p
  · next ns hn =>
    cases q : rdlD c a with
    | none => rw [q] at hn; cases hn
    | some ds =>
      rw [q] at hn
      obtain ⟨l, vs, rfl, h1, q1⟩ := rdl_at R rx q
      have := bls_of q1 hn
      subst this
      exact ⟨l, ns, rfl, h1, p F μ H (Le.refl _ _) R _ (.v _)⟩
  · exact p.elim
/-- the greatest, the least of some whole numbers -/
def maxL : List Int → Int
  | [] => 0
  | [x] => x
  | x :: y :: r => if maxL (y :: r) > x then maxL (y :: r) else x
def minL : List Int → Int
  | [] => 0
  | [x] => x
  | x :: y :: r => if minL (y :: r) < x then minL (y :: r) else x
theorem maxL_mem : ∀ {ns : List Int}, ns ≠ [] → maxL ns ∈ ns
  | [], h => absurd rfl h
  | [x], _ => by simp [maxL]
  | x :: y :: r, _ => by
    unfold maxL
    split
    · exact List.mem_cons_of_mem _ (maxL_mem (by simp))
    · exact List.mem_cons_self
theorem maxL_ge : ∀ {ns : List Int} {z : Int}, z ∈ ns → z ≤ maxL ns
  | [], _, h => by simp at h
  | [x], z, h => by
    have : z = x := by simpa using h
    simp [maxL, this]
  | x :: y :: r, z, h => by
    unfold maxL
    rcases List.mem_cons.mp h with e | h
    · subst e
      split <;> omega
    · have := maxL_ge h
      split <;> omega
theorem minL_mem : ∀ {ns : List Int}, ns ≠ [] → minL ns ∈ ns
  | [], h => absurd rfl h
  | [x], _ => by simp [minL]
  | x :: y :: r, _ => by
    unfold minL
    split
    · exact List.mem_cons_of_mem _ (minL_mem (by simp))
    · exact List.mem_cons_self
theorem minL_le : ∀ {ns : List Int} {z : Int}, z ∈ ns → minL ns ≤ z
  | [], _, h => by simp at h
  | [x], z, h => by
    have : z = x := by simpa using h
    simp [minL, this]
  | x :: y :: r, z, h => by
    unfold minL
    rcases List.mem_cons.mp h with e | h
    · subst e
      split <;> omega
    · have := minL_le h
      split <;> omega
def gMaxL : O → M D := fun a c => match (rdlD c a).bind intsD with
  | some ns => if 0 < ns.length then .ok (.v (.int (maxL ns))) c else .no
  | none => .no
def gMinL : O → M D := fun a c => match (rdlD c a).bind intsD with
  | some ns => if 0 < ns.length then .ok (.v (.int (minL ns))) c else .no
  | none => .no
theorem c1_max : C1S K W (rMax K) gMaxL := fun Z F μ c σ H Q x a R rx p => by
  unfold gMaxL at p
  split at p
  · next ns hn =>
    split at p
    · next h0 =>
      cases q : rdlD c a with
      | none => rw [q] at hn; cases hn
      | some ds =>
        rw [q] at hn
        obtain ⟨l, vs, rfl, h1, q1⟩ := rdl_at R rx q
        have := ints_of q1 hn
        subst this
        have hne : ns ≠ [] := fun z => by subst z; cases h0
        refine ⟨l, ns, rfl, h1, h0, fun m hm hle => ?_⟩
        have e : m = maxL ns := Int.le_antisymm (maxL_ge hm) (hle _ (maxL_mem hne))
        rw [e]
        exact p F μ H (Le.refl _ _) R _ (.v _)
    · exact p.elim
  · exact p.elim
theorem c1_min : C1S K W (rMin K) gMinL := fun Z F μ c σ H Q x a R rx p => by
  unfold gMinL at p
  split at p
  · next ns hn =>
    split at p
    · next h0 =>
      cases q : rdlD c a with
      | none => rw [q] at hn; cases hn
      | some ds =>
        rw [q] at hn
        obtain ⟨l, vs, rfl, h1, q1⟩ := rdl_at R rx q
        have := ints_of q1 hn
        subst this
        have hne : ns ≠ [] := fun z => by subst z; cases h0
        refine ⟨l, ns, rfl, h1, h0, fun m hm hle => ?_⟩
        have e : m = minL ns := Int.le_antisymm (hle _ (minL_mem hne)) (minL_le hm)
        rw [e]
        exact p F μ H (Le.refl _ _) R _ (.v _)
    · exact p.elim
  · exact p.elim
/-- tuple(x) -/
def gTupOf : O → M D := fun a c => match a with
  | .d (.tup ds) => .ok (.tup ds) c
  | a => match rdlD c a with
    | some ds => .ok (.tup ds) c
    | none => .no
theorem c1_tup : C1S K W (fun xs H Q => ∃ p ys, xs = [.ref p] ∧ ((SqL K H p ys ∧ ∀ l, H l = none → Q (.ref l) (upd H l (.tup ys))) ∨ (SqT K H p ys ∧ Q (.ref p) H))) gTupOf := fun Z F μ c σ H Q x a R rx p => by
  unfold gTupOf at p
  split at p
  · next ds =>
    cases rx with
    | d r =>
      have r' := r
      cases r with
      | tup hq rs => exact ⟨_, _, rfl, .inr ⟨Same.seqT R.ex hq, p F μ H (Le.refl _ _) R _ r'⟩⟩
  · split at p
    · next ds hs =>
      obtain ⟨l, vs, rfl, h1, q1⟩ := rdl_at R rx hs
      refine ⟨l, vs, rfl, .inl ⟨h1, fun q hq => ?_⟩⟩
      obtain ⟨R2, l2⟩ := R.new (o := .tup vs) hq
      exact p _ _ _ l2 R2 _ (.tup (.of upd_same) (q1.mono l2))
    · exact p.elim
end
section
variable {X : Cx} {W : WX}
theorem bSum {K : PySem.W.Frag} (hc : X.calm = true) (hK : X.K = K := by rfl) : B1 X W (.builtin "sum") (rSum K) gSum := by
  subst hK
  exact ⟨cr_sum hc, c1_sum⟩
theorem bAll {K : PySem.W.Frag} (hc : X.calm = true) (hK : X.K = K := by rfl) : B1 X W (.builtin "all") (rAll K) gAll := by
  subst hK
  exact ⟨cr_all hc, c1_all⟩
theorem bAny {K : PySem.W.Frag} (hc : X.calm = true) (hK : X.K = K := by rfl) : B1 X W (.builtin "any") (rAny K) gAny := by
  subst hK
  exact ⟨cr_any hc, c1_any⟩
theorem bMax {K : PySem.W.Frag} (hc : X.calm = true) (hK : X.K = K := by rfl) : B1 X W (.builtin "max") (rMax K) gMaxL := by
  subst hK
  exact ⟨cr_max hc, c1_max⟩
theorem bMin {K : PySem.W.Frag} (hc : X.calm = true) (hK : X.K = K := by rfl) : B1 X W (.builtin "min") (rMin K) gMinL := by
  subst hK
  exact ⟨cr_min hc, c1_min⟩
def rTupOf (K : PySem.W.Frag) : List V → Hp → VK → Prop := fun xs H Q => ∃ p ys, xs = [.ref p] ∧ ((SqL K H p ys ∧ ∀ l, H l = none → Q (.ref l) (upd H l (.tup ys))) ∨ (SqT K H p ys ∧ Q (.ref p) H))
theorem bTup {K : PySem.W.Frag} (hK : X.K = K := by rfl) : B1 X W (.type "tuple") (rTupOf K) gTupOf := by
  subst hK
  exact ⟨call_tuple_of, c1_tup⟩
end
section
variable {X : Cx} {W : WX} {a b : Expr} {t ta tb : TE} {pos : Pos} {da db : M O}
/-- list(x) -/
def dListOf (da : M O) : M (List D) := M.bind da fun a c => match seqD c a with
  | some ds => .ok ds c
  | none => .no
def rListOf (K : PySem.W.Frag) : List V → Hp → VK → Prop := fun xs H Q => ∃ p ys, xs = [.ref p] ∧ (SqL K H p ys ∨ SqT K H p ys) ∧ ∀ l, H l = none → Q (.ref l) (upd H l (.lst ys))
theorem en_listOf {K : PySem.W.Frag} {p : Pos} (hg : Gl X "list") (hm : X.mg "list" = none) (hv : bootBuiltins "list" = some (.type "list")) (ha : ED X W a ta da)
    (hs : starEach [a] X.env = (false, eval a X.env) :: starEach [] X.env := by rfl)
    (he : starEach [a] X.env = (false, eval a X.env) :: starEach [] X.env := by rfl) (hpl : (backTo pos (starEach [] X.env)).any (·.1) = false := by rfl) (hK : X.K = K := by rfl) :
    EN X W (.Call (.Name "list" p) [a] [] pos) (tCB (rListOf K) (tCons ta tNil)) (dListOf da) := by
  subst hK
  exact ⟨pe_callTy call_list_of hg hm hv (pa_cons ha.pe pa_nil hs) (by decide) (by decide) he hpl, fun Z F μ c σ H Q R p => ha.ev Z F μ c σ H _ R (p.bind.imp fun o c1 F1 μ1 H1 l1 R1 p1 v1 r1 => by
    split at p1
    · next ds hs =>
      obtain ⟨l, vs, rfl, h1, q1⟩ := seq_at R1 r1 hs
      refine ⟨l, vs, rfl, h1, fun q hq => ?_⟩
      exact p1 F1 μ1 _ (Le.refl _ _) (R1.up (same_new hq)) q vs upd_same (R1.nob hq) q1
    · exact p1.elim)⟩
/-- max, min of two whole numbers -/
def g2I (f : Int → Int → Int) : List D → M D := fun ds c => match ds with
  | [.v (.int i), .v (.int j)] => .ok (.v (.int (f i j))) c
  | _ => .no
def r2C (f : Int → Int → Int) : List V → Hp → VK → Prop := fun xs H Q => ∃ i j, xs = [.int i, .int j] ∧ Q (.int (f i j)) H
def fMax (i j : Int) : Int := if j > i then j else i
def fMin (i j : Int) : Int := if j < i then j else i
theorem dd_b2 {id : String} {x : Str} {p : Pos} {f : Int → Int → Int} {tr : TA} {dr : M (List D)} (hc : CallR X (.builtin id) (r2C f)) (hg : Gl X x) (hm : X.mg x = none) (hv : bootBuiltins x = some (.builtin id)) (ha : AD X W [a, b] tr dr)
    (hn : x ≠ "__name__" := by decide) (hdb : (x == ("__debug__" : Str)) = false := by decide)
    (he : starEach [a, b] X.env = (false, eval a X.env) :: starEach [b] X.env := by rfl) (hpl : (backTo pos (starEach [b] X.env)).any (·.1) = false := by rfl) :
    DD X W (.Call (.Name x p) [a, b] [] pos) (tCB (r2C f) tr) (M.bind dr (g2I f)) :=
  ⟨pe_callB hc hg hm hv ha.pa hn hdb he hpl, fun Z F μ c σ H Q R p => ha.ev Z F μ c σ H _ R (p.bind.imp fun ds c1 F1 μ1 H1 l1 R1 p1 vs rs => by
    unfold g2I at p1
    split at p1
    · cases rs with
      | cons r rs =>
        cases r
        cases rs with
        | cons r rs =>
          cases r
          cases rs
          exact ⟨_, _, rfl, p1 F1 μ1 H1 (Le.refl _ _) R1 _ (.v _)⟩
    · exact p1.elim)⟩
theorem call_max2' (hc : X.calm = true) : CallR X (.builtin "max") (r2C fMax) := call_max2 hc
theorem call_min2' (hc : X.calm = true) : CallR X (.builtin "min") (r2C fMin) := call_min2 hc
/-- divmod -/
def gDm : List D → M D := fun ds c => match ds with
  | [.v (.int i), .v (.int j)] => if 0 < j ∧ j.natAbs.log2 < 9000 then .ok (.tup [.v (.int (i / j)), .v (.int (i % j))]) c else .no
  | _ => .no
def rDm : List V → Hp → VK → Prop := fun xs H Q => ∃ i j, xs = [.int i, .int j] ∧ (0 < j ∧ j.natAbs.log2 < 9000) ∧ ∀ p, H p = none → Q (.ref p) (upd H p (.tup [.int (i / j), .int (i % j)]))
theorem call_divmodW : CallR X (.builtin "divmod") rDm := by
  intro pins s σ H xs us Q I r h
  obtain ⟨i, j, rfl, ⟨h1, h2⟩, q⟩ := h
  obtain ⟨u, w', rfl, ⟨t, rfl⟩, ⟨t', rfl⟩⟩ := vals2 r
  have hj : j ≠ 0 := by omega
  have hj0 : 0 ≤ j := by omega
  refine PyProof.Rows.divmod_int hj ?_ (.inl (PyProof.noPylong_of_log2 h2))
  rw [Int.fdiv_eq_ediv_of_nonneg i hj0, Int.fmod_eq_emod_of_nonneg i hj0]
  have hn := I.fresh
  have two : (2 : Nat) ≤ sizeLine := by decide
  have va : Vals [V.int (i / j), V.int (i % j)] [.int (i / j) s.toks, .int (i % j) (s.toks + 1)] := Vals.append (xs := [V.int (i / j)]) (us := [.int (i / j) s.toks]) (.cons ⟨_, rfl⟩ .nil) (.cons ⟨_, rfl⟩ .nil)
  refine ⟨.ref s.heap.objs.size, _, ?_, rfl, q _ hn⟩
  exact I.laid (fun _ _ z => Heap.get?_push_of_some _ z) (Nat.le_refl _) ⟨two, _, va, ⟨_, Heap.get?_push_size s.heap rfl, rfl, 0, rfl⟩⟩
theorem dd_divmod {x : Str} {p : Pos} {tr : TA} {dr : M (List D)} (hg : Gl X "divmod") (hm : X.mg "divmod" = none) (hv : bootBuiltins "divmod" = some (.builtin "divmod")) (ha : AD X W [a, b] tr dr)
    (he : starEach [a, b] X.env = (false, eval a X.env) :: starEach [b] X.env := by rfl) (hpl : (backTo pos (starEach [b] X.env)).any (·.1) = false := by rfl) :
    DD X W (.Call (.Name "divmod" p) [a, b] [] pos) (tCB rDm tr) (M.bind dr gDm) :=
  ⟨pe_callB call_divmodW hg hm hv ha.pa (by decide) (by decide) he hpl, fun Z F μ c σ H Q R p => ha.ev Z F μ c σ H _ R (p.bind.imp fun ds c1 F1 μ1 H1 l1 R1 p1 vs rs => by
    unfold gDm at p1
    split at p1
    · split at p1
      · next hz =>
        cases rs with
        | cons r rs =>
          cases r
          cases rs with
          | cons r rs =>
            cases r
            cases rs
            refine ⟨_, _, rfl, hz, fun q hq => ?_⟩
            obtain ⟨R2, l2⟩ := R1.new (o := .tup [.int _, .int _]) hq
            exact p1 _ _ _ l2 R2 _ (.tup (.of upd_same) (.cons (.v _) (.cons (.v _) .nil)))
      · exact p1.elim
    · exact p1.elim)⟩

/-! ### slices -/
structure OD (X : Cx) (W : WX) (e : Option Expr) (t : TO) (d : M (Option Int)) : Prop where
  po : PO X e t
  ev : ∀ (Z F : Hp) (μ : List Addr) (c : Stt) (σ : St) (H : Hp) (Q : Option Int → Hp → Prop), Rel X.K Z F μ c σ H → Post X.K Z F μ σ W (d c) (fun o _ _ _ H' => Q o H') → t σ H Q
theorem od_none : OD X W none tNoPart (M.pure none) := ⟨po_none, fun Z F μ c σ H Q R p => p F μ H (Le.refl _ _) R⟩
def gPart (o : O) : M (Option Int) := fun c => match o with
  | .d (.v (.int i)) => .ok (some i) c
  | _ => .no
theorem od_some (h : ED X W a ta da) : OD X W (some a) (tPart ta) (M.bind da gPart) := ⟨po_some h.pe, fun Z F μ c σ H Q R p => h.ev Z F μ c σ H _ R (p.bind.imp fun o c1 F1 μ1 H1 l1 R1 p1 v1 r1 => by
  unfold gPart at p1
  split at p1
  · cases r1 with | d r => cases r; exact ⟨_, rfl, p1 F1 μ1 H1 (Le.refl _ _) R1⟩
  · exact p1.elim)⟩
def cutL {α : Type} (xs : List α) (lo hi : Option Int) : List α := (xs.drop (HT.sIx xs.length 0 lo)).take (HT.sIx xs.length xs.length hi - HT.sIx xs.length 0 lo)
theorem reps_cut {K : PySem.W.Frag} {F : Hp} {μ : List Addr} {vs : List V} {ds : List D} (r : Reps K F μ vs ds) (lo hi : Option Int) : Reps K F μ (cutV vs lo hi) (cutL ds lo hi) := by
  unfold cutV cutL
  rw [r.length]
  exact (r.drop _).take _
def dSlL (da : M O) (dl du : M (Option Int)) : M (List D) := M.bind da fun o => M.bind dl fun lo => M.bind du fun hi c => match rdlD c o with
  | some ds => .ok (cutL ds lo hi) c
  | none => .no
theorem en_slice {K : PySem.W.Frag} {lo hi : Option Expr} {tl th : TO} {dl du : M (Option Int)} {p2 : Pos} (h : ED X W a ta da) (hl : OD X W lo tl dl) (hu : OD X W hi th du) (hK : X.K = K := by rfl) : EN X W (.Subscript a (.Slice lo hi none p2) pos) (tSl (rSlL K) ta tl th) (dSlL da dl du) := by
  subst hK
  exact ⟨pe_slice sl_list h.pe hl.po hu.po, fun Z F μ c σ H Q R p => h.ev Z F μ c σ H _ R (p.bind.imp fun o c1 F1 μ1 H1 l1 R1 p1 v1 r1 => hl.ev Z F1 μ1 c1 σ H1 _ R1 (p1.bind.imp fun l c2 F2 μ2 H2 l2 R2 p2 => hu.ev Z F2 μ2 c2 σ H2 _ R2 (p2.bind.imp fun u c3 F3 μ3 H3 l3 R3 p3 => by
    split at p3
    · next ds hs =>
      obtain ⟨l, vs, rfl, h1, q1⟩ := rdl_at R3 ((r1.mono l2).mono l3) hs
      refine ⟨l, vs, rfl, h1, fun q hq => ?_⟩
      exact p3 F3 μ3 _ (Le.refl _ _) (R3.up (same_new hq)) q _ upd_same (R3.nob hq) (reps_cut q1 _ _)
    · exact p3.elim)))⟩
def dRev (da : M O) : M (List D) := M.bind da fun o c => match rdlD c o with
  | some ds => .ok ds.reverse c
  | none => .no
theorem reps_rev {K : PySem.W.Frag} {F : Hp} {μ : List Addr} : ∀ {vs : List V} {ds : List D}, Reps K F μ vs ds → Reps K F μ vs.reverse ds.reverse
  | _, _, .nil => .nil
  | _, _, .cons h r => by
    rw [List.reverse_cons, List.reverse_cons]
    exact (reps_rev r).snoc h
theorem en_rev {K : PySem.W.Frag} {k : Nat} {p1 p2 p3 : Pos} (h : ED X W a ta da) (hK : X.K = K := by rfl) : EN X W (.Subscript a (.Slice none none (some (.UnaryOp .USub (.Constant (.int 1) k p1) p2)) p3) pos) (tRevL K ta) (dRev da) := by
  subst hK
  exact ⟨pe_revL h.pe, fun Z F μ c σ H Q R p => h.ev Z F μ c σ H _ R (p.bind.imp fun o c1 F1 μ1 H1 l1 R1 p1 v1 r1 => by
    split at p1
    · next ds hs =>
      obtain ⟨l, vs, rfl, h1, q1⟩ := rdl_at R1 r1 hs
      refine ⟨l, vs, rfl, h1, fun q hq => ?_⟩
      exact p1 F1 μ1 _ (Le.refl _ _) (R1.up (same_new hq)) q _ upd_same (R1.nob hq) (reps_rev q1)
    · exact p1.elim)⟩

/-! ### lists that are changed -/
def mutD (c : Stt) : O → Option (List D)
  | .d (.loc n) => match c.S[n]? with
    | some (.lst ds) => some ds
    | _ => none
  | .sl i => match c.r[i]? with
    | some (.own (.lst ds)) => some ds
    | _ => none
  | _ => none
def putL (o : O) (ds : List D) (c : Stt) : Stt := match o with
  | .d (.loc n) => ⟨c.r, c.S.set n (.lst ds)⟩
  | .sl i => ⟨c.r.set i (.own (.lst ds)), c.S⟩
  | _ => c
theorem mut_at {K : PySem.W.Frag} {Z F : Hp} {μ : List Addr} {c : Stt} {σ : St} {H : Hp} {v : V} {o : O} {ds : List D} (h : Rel K Z F μ c σ H) (r : RepO K F μ σ v o) (e : mutD c o = some ds) :
    ∃ a vs, v = .ref a ∧ H a = some (.lst vs) ∧ Reps K F μ vs ds ∧ ∀ ws es, Reps K F μ ws es → Rel K Z F μ (putL o es c) σ (upd H a (.lst ws)) := by
  unfold mutD at e
  split at e
  · next n =>
    split at e
    · next es hs =>
      cases e
      cases r with
      | d r =>
        cases r with
        | loc hn =>
          obtain ⟨_, _, u, e1, e2⟩ := h.sto _ _ _ hn hs
          cases e2 with
          | lst r => exact ⟨_, _, rfl, e1, r, fun ws es rs => h.put hs (by intro z; cases z) hn (.lst rs)⟩
    · cases e
  · next i =>
    split at e
    · next es hs =>
      cases e
      cases r with
      | sl r =>
        obtain ⟨a, e1, ⟨_, _, u, e2, e3⟩, _⟩ := h.own i _ hs
        rw [r] at e1; cases e1
        cases e3 with
        | lst rs => exact ⟨_, _, rfl, e2, rs, fun ws es rs => h.write hs r (.lst rs) (by intro z; cases z)⟩
    · cases e
  · cases e
/-- o.append(e) -/
def dApp (da : M O) (de : M D) : M D := M.bind da fun o c => match mutD c o with
  | some _ => M.bind de (fun x c => match mutD c o with
      | some ds => if ds.length < 1000000 then .ok (.v .non) (putL o (ds ++ [x]) c) else .no
      | none => .no) c
  | none => .no
theorem lt6 {n : Nat} (h : n < 1000000) : n < sizeLine := Nat.lt_of_lt_of_le h (by decide)
theorem dd_append {K : PySem.W.Frag} {te : TE} {de : M D} {apos : Pos} (ho : ED X W a ta da) (he : DD X W b te de)
    (hbase : attributeBase a "append" X.env (eval a X.env) = eval a X.env := by rfl)
    (hfew : ((backTo pos (starEach [b] X.env)).all (fun x => !x.1) && (backToKw pos (keywordEach [] X.env)).all (fun x => x.1.isSome)
      && decide (([b] : List Expr).length + ([] : List Keyword).length + (if ([] : List Keyword).isEmpty then 0 else 1) < 30)) = true := by rfl)
    (hline : (apos.endLine == pos.line) = true := by rfl) (hs : starEach [b] X.env = (false, eval b X.env) :: starEach [] X.env := by rfl) (hplain : (backTo pos (starEach [] X.env)).any (·.1) = false := by rfl)
    (hs2 : starEach [b] X.env = (false, eval b X.env) :: starEach [] X.env := by rfl) (hK : X.K = K := by rfl) :
    DD X W (.Call (.Attribute a "append" apos) [b] [] pos) (tBM K "list" rAppend ta (tCons te tNil)) (dApp da de) := by
  subst hK
  exact ⟨pe_bm PySem.F.plainAttrs_list PySem.F.slot_list_append PySem.F.type_list_append mt_append ho.pe (pa_cons he.pe pa_nil hs2) hbase hfew hline hs hplain, fun Z F μ c σ H Q R p => ho.ev Z F μ c σ H _ R (p.bind.imp fun o c1 F1 μ1 H1 l1 R1 p1 v1 r1 => by
    split at p1
    · next ds0 hs0 =>
      obtain ⟨a0, vs0, rfl, h0, _, _⟩ := mut_at R1 r1 hs0
      refine ⟨.inl ⟨rfl, _, .of h0⟩, he.ev Z F1 μ1 c1 σ H1 _ R1 (p1.bind.imp fun x c2 F2 μ2 H2 l2 R2 p2 v2 r2 => ?_)⟩
      split at p2
      · next ds hs =>
        split at p2
        · next hz =>
          obtain ⟨a2, vs2, e2, h2, rs, k⟩ := mut_at R2 (r1.mono l2) hs
          cases e2
          exact ⟨_, vs2, v2, rfl, rfl, h2, lt6 (by rw [rs.length]; exact hz), p2 F2 μ2 _ (Le.refl _ _) (k _ _ (rs.snoc r2)) _ (.v _)⟩
        · exact p2.elim
      · exact p2.elim
    · exact p1.elim)⟩

/-! ### isinstance, by built-in classes -/
def tagD : D → Option String
  | .v .non => some "NoneType"
  | .v (.bl _) => some "bool"
  | .v (.int _) => some "int"
  | .v (.str _) => some "str"
  | .tup _ => some "tuple"
  | .lst _ => some "list"
  | .dct _ => some "dict"
  | _ => none
def isiT (t c : String) : Option Bool :=
  if ["NoneType", "bool", "int", "str", "tuple", "list", "dict"].contains t && ["bool", "int", "str", "tuple", "list", "dict"].contains c then some (t == c || (t == "bool" && c == "int")) else none
theorem isi_kit {K : PySem.W.Frag} {t c : String} {b : Bool} (h : isiT t c = some b) : PySem.W.kitOne K (.type t) (.type c) = some b := by
  unfold isiT at h
  split at h
  · next hh =>
    rw [Bool.and_eq_true] at hh
    have h1 : t = "NoneType" ∨ t = "bool" ∨ t = "int" ∨ t = "str" ∨ t = "tuple" ∨ t = "list" ∨ t = "dict" := by simpa using hh.1
    have h2 : c = "bool" ∨ c = "int" ∨ c = "str" ∨ c = "tuple" ∨ c = "list" ∨ c = "dict" := by simpa using hh.2
    apply kit_ty
    rw [← h]
    rcases h1 with rfl | rfl | rfl | rfl | rfl | rfl | rfl <;> rcases h2 with rfl | rfl | rfl | rfl | rfl | rfl <;> decide +kernel
  · cases h
theorem ty_of {K : PySem.W.Frag} {F H : Hp} {μ : List Addr} {v : V} {d : D} {t : String} (ex : Same F H) (r : Rep K F μ v d) (e : tagD d = some t) : TyX K H v (.type t) := by
  cases r with
  | v => cases v <;> cases e <;> exact .base (by constructor)
  | tup hq rs =>
    cases e
    rcases hq with (h | ⟨o, h⟩) | ⟨o, its, n, hk, hc, _⟩
    · exact .base (.tup (ex _ _ h))
    · exact .fTuple (ex _ _ h)
    · exact .kTuple hk hc
  | lst hq rs => cases e; exact .base (.lst (ex _ _ hq))
  | dct hq _ _ => cases e; exact .base (.dK (ex _ _ hq))
  | _ => cases e
def gIsi (cl : String) : D → M D := fun x c => match (tagD x).bind fun t => isiT t cl with
  | some b => .ok (.v (.bl b)) c
  | none => .no
theorem dd_isi {K : PySem.W.Frag} {x : Str} {cl : String} {p q : Pos} {dx : M D} (hg : Gl X "isinstance") (hm : X.mg "isinstance" = none) (hv : bootBuiltins "isinstance" = some (.builtin "isinstance")) (ha : DD X W a ta dx) (hg2 : Gl X x) (hm2 : X.mg x = none) (hv2 : bootBuiltins x = some (.type cl))
    (hs : starEach [a, .Name x q] X.env = (false, eval a X.env) :: starEach [.Name x q] X.env := by rfl) (hs2 : starEach [.Name x q] X.env = (false, eval (.Name x q) X.env) :: starEach [] X.env := by rfl) (hn : x ≠ "__name__" := by decide) (hdb : (x == ("__debug__" : Str)) = false := by decide)
    (he : starEach [a, .Name x q] X.env = (false, eval a X.env) :: starEach [.Name x q] X.env := by rfl) (hpl : (backTo pos (starEach [.Name x q] X.env)).any (·.1) = false := by rfl) (hK : X.K = K := by rfl) :
    DD X W (.Call (.Name "isinstance" p) [a, .Name x q] [] pos) (tCB (rIsi K) (tCons ta (tCons (tC (.ty cl)) tNil))) (M.bind dx (gIsi cl)) := by
  subst hK
  exact ⟨pe_callB call_isi hg hm hv (pa_cons ha.pe (pa_cons (pe_bltn hg2 hm2 hv2 rfl hn hdb) pa_nil hs2) hs) (by decide) (by decide) he hpl, fun Z F μ c σ H Q R p => ha.ev Z F μ c σ H _ R (p.bind.imp fun x c1 F1 μ1 H1 l1 R1 p1 v1 r1 => by
    unfold gIsi at p1
    split at p1
    · next b hb =>
      cases ht : tagD x with
      | none => rw [ht] at hb; cases hb
      | some t =>
        rw [ht] at hb
        exact ⟨v1, .ty cl, .type t, .type cl, b, rfl, .ty cl, ty_of R1.ex r1 ht, isi_kit hb, p1 F1 μ1 H1 (Le.refl _ _) R1 _ (.v _)⟩
    · exact p1.elim)⟩
end

/-! ### the defs of a text -/
/-- where a def stands -/
def Has (K : PySem.W.Frag) (mg : Str → Option Value) (x qual : Str) (st : Stmt) (ps : List Str) : Prop := ∃ f fd, Fun K x qual st f fd ∧ mg x = some (.ref f) ∧ ∀ us : List Value, us.length = ps.length → bindArgs fd ⟨us, []⟩ = pure (ps.zip us)
/-- a def of that name computes g -/
def Okf (P : Program) (w : World) (K : PySem.W.Frag) (mg : Str → Option Value) (base : Heap) (k : Nat) (x : Str) (ps : List Str) (g : G) : Prop :=
  ∃ f fd, FnOk P w K mg base (L2.CX P w) k f fd ps (spG K g) ∧ mg x = some (.ref f) ∧ PySem.W.keepIn K (.ref f) = true ∧ ∀ us : List Value, us.length = ps.length → bindArgs fd ⟨us, []⟩ = pure (ps.zip us)
section
variable {X : Cx} {W : WX} {a : Expr} {es : List Expr} {pos : Pos} {tr : TA} {dr : M (List D)}
theorem dd_fn {K : PySem.W.Frag} {k : Nat} {ps : List Str} {g : G} {x : Str} {p : Pos} (h : Okf X.prog X.w X.K X.mg X.base k x ps g) (hr : Room k X.A) (hg : Gl X x) (hx : Pol X W) (ha : AD X W (a :: es) tr dr)
    (hdb : (x == ("__debug__" : Str)) = false := by decide) (he : starEach (a :: es) X.env = (false, eval a X.env) :: starEach es X.env := by rfl) (hpl : (backTo pos (starEach es X.env)).any (·.1) = false := by rfl) (hK : X.K = K := by rfl) :
    DD X W (.Call (.Name x p) (a :: es) [] pos) (tCallS (spG K g) (WE W) tr) (dCall g dr) := by
  subst hK
  obtain ⟨f, fd, F, hm, hk, hb⟩ := h
  exact dd_call F hr hg hm hk (.all hb) hx ha hdb he hpl
end
theorem ok_has {P : Program} {w : World} {K : PySem.W.Frag} {mg : Str → Option Value} {base : Heap} {x qual : Str} {st : Stmt} {N ps : List Str} {j k : Nat} {b : M Fl} (h : Has K mg x qual st ps) (S : FnScope N ps (defScope st)) (hk : ps.length = k) (hN : k ≤ N.length)
    (body : ∀ (f : Addr) (cdv : Value) (A : Around) (outer : List Env) (s : Shared) (H : Hp) (E : XK), Room j (A.deeper (PyProof.Rows.envOfC qual (defScope st) s.heap.objs.size f cdv)) →
      ∃ t, BD (cxOf (L2.CX P w) P w K mg base N qual (defScope st) f cdv A outer s H E) (fun cls d _ H => E cls d H) (defBody st) t b) : Okf P w K mg base (j + 1) x ps (runD N.length k b) := by
  obtain ⟨f, fd, F, hm, hb⟩ := h
  exact ⟨f, fd, fn_ok F S hk hN (body f), hm, F.kp, hb⟩
theorem Okf.by {P : Program} {w : World} {K : PySem.W.Frag} {mg : Str → Option Value} {base : Heap} {k : Nat} {x : Str} {ps : List Str} {g g' : G} (h : Okf P w K mg base k x ps g) (e : ∀ ds S, g' ds S ≠ .no → g ds S = g' ds S) : Okf P w K mg base k x ps g' := by
  obtain ⟨f, fd, F, hm, hk, hb⟩ := h
  exact ⟨f, fd, FnOk.by F e, hm, hk, hb⟩
end My

set_option Elab.async false
set_option linter.all false
set_option maxRecDepth 100000
set_option maxHeartbeats 4000000
/-! F8: the end of a law. -/
namespace My
open PySem L2
theorem has_of {K : PySem.W.Frag} {h : Heap} {mg : Str → Option Value} {f : Addr} {x qual : Str} {st : Stmt} {ps : List Str} {od an : Option Addr} {sl : Array (Option Value)} {oc kV dc pm cd ct : Value} (X : K.In h) (G : h.Ns mainGlobals mg)
    (b : ∀ (kV doc pm : Value) (an : Option Addr) (cdv ct : Value) (us : List Value), us.length = ps.length → bindArgs (PySem.W.fnOf x qual (defArgs st) (defBody st) (defScope st) .none kV doc pm an cdv ct) ⟨us, []⟩ = pure (ps.zip us))
    (a : PySem.W.nsIn K mainGlobals x = some (some (.ref f))) (l : K.lookup f = some ⟨oc, od, .func (PySem.W.fnOf x qual (defArgs st) (defBody st) (defScope st) .none kV dc pm an cd ct), sl⟩) (c : PySem.W.codeIn K cd qual = true) (k : PySem.W.keepIn K (.ref f) = true) : Has K mg x qual st ps :=
  let F := fun_mk (st := st) l c k
  ⟨f, _, F, PySem.W.mg_of X G a, b kV dc pm an cd ct⟩
def scr (ns : List Int) : D := .scr (ns.map fun n => .v (.int n))
theorem reps_ints {K : PySem.W.Frag} {F : Hp} {μ : List Addr} : ∀ ns : List Int, Reps K F μ (ns.map V.int) (ns.map fun n => .v (.int n))
  | [] => .nil
  | n :: ns => .cons (.v _) (reps_ints ns)
theorem law_end {K : PySem.W.Frag} {H : Hp} {a : Addr} {ns : List Int} {g : G} {S : List Cell} {E : XK} (hS : SqL K H a (ns.map V.int)) (h : g [scr ns] [] = .ok (.v (.bl true)) S) : spG K g [.ref a] H (fun v _ => v = .bl true) E := by
  refine ⟨fun _ => none, H, [], [], [scr ns], ?_, .cons (.scr hS (reps_ints ns)) .nil, ?_⟩
  · exact { ex := Same.refl H, exz := fun _ _ e => (by cases e), fz := fun _ _ e => (by cases e), len := rfl, slot := fun i x e => (by simp at e), own := fun i x e => (by simp at e), dis := fun i j a m m' e => (by simp at e), lm := rfl, sto := fun n a m e => (by simp at e), dst := fun i n a m e => (by simp at e), ndm := fun n k a e => (by simp at e) }
  · rw [h]
    intro v F' μ' H' _ _ r
    cases r
    rfl
theorem cx_end (P : Program) (w : World) (H : Hp) (s : Shared) (e : Value) (s' : Shared) : L2.CX P w [] H s (fun _ _ _ => False) e s' → False := fun h => by
  obtain ⟨_, _, _, _, _, _, _, _, _, _, _, _, z⟩ := h
  exact z
/-- the law's def, as the end wants it -/
theorem law_ok {P : Program} {w : World} {K : PySem.W.Frag} {mg : Str → Option Value} {fa : Addr} {x p : Str} {k : Nat} {g : G} (hfa : mg x = some (.ref fa)) (d : ∃ f fd, mg x = some (.ref f) ∧ (∀ us : List Value, us.length = 1 → bindArgs fd ⟨us, []⟩ = pure ([p].zip us)) ∧ ∀ base : Heap, K.In base → base.Ns mainGlobals mg → FnOk P w K mg base (L2.CX P w) k f fd [p] (spG K g)) :
    ∃ fd : FuncData, (∀ (s : Shared) (v : Value), BindsTo s fd ⟨[v], []⟩ [(p, v)]) ∧ ∀ base : Heap, K.In base → base.Ns mainGlobals mg → FnOk P w K mg base (L2.CX P w) k fa fd [p] (spG K g) := by
  obtain ⟨f, fd, h1, h2, h3⟩ := d
  have e := hfa.symm.trans h1
  cases e
  exact ⟨fd, fun s v => .of_eq (h2 [v] rfl), h3⟩
end My

set_option Elab.async false
set_option linter.all false
set_option maxRecDepth 100000
set_option maxHeartbeats 4000000
/-! F9: reckoning with images: loops, comprehensions, sizes. -/
namespace My
open PySem L2

/-! ### sizes -/
theorem mulOk_l {i j : Int} (h : i.natAbs < 2 ^ 64) : mulOk i j := .inl (.inl (by omega))
theorem mulOk_r {i j : Int} (h : j.natAbs < 2 ^ 64) : mulOk i j := .inl (.inr (by omega))
theorem log2_lt {n k : Nat} (hk : 0 < k) (h : n < 2 ^ k) : n.log2 < k := PySem.Flt.log2_lt_of hk h
theorem mulOk_b {i j : Int} {a b : Nat} (ha : i.natAbs < 2 ^ a) (hb : j.natAbs < 2 ^ b) (h0 : 0 < a) (h1 : 0 < b) (h : a + b ≤ 1000000) : mulOk i j := .inr (wide_mul ha hb h0 h1 h)
theorem divOk_b {j : Int} {b : Nat} (h : j ≠ 0) (hb : j.natAbs < 2 ^ b) (h0 : 0 < b) (h9 : b ≤ 9000) : divOk j := ⟨h, Nat.lt_of_lt_of_le (log2_lt h0 hb) h9⟩
theorem divOk_s {j : Int} (h : j ≠ 0) (hb : j.natAbs < 2 ^ 64) : divOk j := divOk_b h hb (by decide) (by decide)

/-! ### for -/
section
variable {dg : D → M Unit} {db : M Fl}
/-- one turn after another, with something that stays -/
theorem itF_inv {Inv : Nat → Stt → Prop} : ∀ (ds : List D) (i : Nat) (c : Stt), Inv i c → (∀ (j : Nat) (d : D) (c : Stt), ds[j]? = some d → Inv (i + j) c → ∃ c1, dg d c = .ok () c1 ∧ ∃ f c2, db c1 = .ok f c2 ∧ (f = .nx ∨ f = .ct) ∧ Inv (i + j + 1) c2) →
    ∃ c', itF dg db ds c = .ok .nx c' ∧ Inv (i + ds.length) c'
  | [], i, c, h, _ => ⟨c, rfl, h⟩
  | d :: r, i, c, h, t => by
    obtain ⟨c1, e1, f, c2, e2, hf, h2⟩ := t 0 d c rfl h
    obtain ⟨c', e3, h3⟩ := itF_inv r (i + 1) c2 h2 fun j d' c' q hc => by
      have := t (j + 1) d' c' (by simpa using q) (by rw [← Nat.add_assoc, Nat.add_right_comm]; exact hc)
      simpa [Nat.add_assoc, Nat.add_comm, Nat.add_left_comm] using this
    refine ⟨c', ?_, by simpa [Nat.add_assoc, Nat.add_comm, Nat.add_left_comm] using h3⟩
    unfold itF M.bind M.ne
    rw [e1]
    dsimp only
    rw [e2]
    rcases hf with rfl | rfl <;> exact e3
/-- a fold -/
theorem itF_fold {α : Type} {enc : α → Stt} {step : α → D → α} : ∀ (ds : List D) (s : α), (∀ (s : α) (d : D), d ∈ ds → ∃ c1, dg d (enc s) = .ok () c1 ∧ ∃ f, db c1 = .ok f (enc (step s d)) ∧ (f = .nx ∨ f = .ct)) → itF dg db ds (enc s) = .ok .nx (enc (ds.foldl step s))
  | [], s, _ => rfl
  | d :: r, s, t => by
    obtain ⟨c1, e1, f, e2, hf⟩ := t s d List.mem_cons_self
    have e3 := itF_fold r (step s d) fun s d' h => t s d' (List.mem_cons_of_mem _ h)
    unfold itF M.bind M.ne
    rw [e1]
    dsimp only
    rw [e2]
    rcases hf with rfl | rfl <;> exact e3
end
theorem itF_nil {dg : D → M Unit} {db : M Fl} {c : Stt} : itF dg db [] c = .ok .nx c := rfl
theorem itF_cons {dg : D → M Unit} {db : M Fl} {d : D} {r : List D} {c c1 : Stt} (h : dg d c = .ok () c1) : itF dg db (d :: r) c = M.bind db (fun f => match f with
    | .nx => itF dg db r
    | .ct => itF dg db r
    | .bk => M.pure .nx
    | .rt x => M.pure (.rt x)) c1 := by
  show M.bind (M.ne (dg d)) _ c = _
  have e : M.ne (dg d) c = .ok () c1 := by
    unfold M.ne
    rw [h]
  conv => lhs; unfold M.bind
  rw [e]
  rfl
/-- a row that is searched: the first one that returns -/
theorem itF_ret {dg : D → M Unit} {db : M Fl} {d : D} {r : List D} {c c1 c2 : Stt} {x : D} (h : dg d c = .ok () c1) (h2 : db c1 = .ok (.rt x) c2) : itF dg db (d :: r) c = .ok (.rt x) c2 := by
  rw [itF_cons h]
  unfold M.bind
  rw [h2]
  rfl
theorem itF_next {dg : D → M Unit} {db : M Fl} {d : D} {r : List D} {c c1 c2 : Stt} (h : dg d c = .ok () c1) (h2 : db c1 = .ok .nx c2) : itF dg db (d :: r) c = itF dg db r c2 := by
  rw [itF_cons h]
  unfold M.bind
  rw [h2]
/-! ### comprehensions -/
theorem itL_map {dg : D → M Unit} {dt : M Bool} {de : M D} {vs : List Nat} {r0 : List Slot} {w : List Slot} {S : List Cell} {p : D → Bool} {f : D → D} : ∀ (ds acc : List D) (c : Stt), wipeD c.r vs = w → c.S = S → acc.length + ds.length ≤ 1000000 →
    (∀ d ∈ ds, ∃ c1, dg d ⟨w, S⟩ = .ok () c1 ∧ ∃ c2, dt c1 = .ok (p d) c2 ∧ wipeD c2.r vs = w ∧ c2.S = S ∧ (p d = true → ∃ c3, de c2 = .ok (f d) c3 ∧ wipeD c3.r vs = w ∧ c3.S = S)) →
    itL dg dt de vs r0 ds acc c = .ok (acc ++ (ds.filter p).map f) ⟨w, S⟩
  | [], acc, c, hw, hS, _, _ => by
    unfold itL
    rw [hw, hS]
    simp
  | d :: r, acc, c, hw, hS, hz, t => by
    obtain ⟨c1, e1, c2, e2, w2, s2, k⟩ := t d List.mem_cons_self
    unfold itL M.bind M.ne
    rw [hw, hS, e1]
    dsimp only
    rw [e2]
    dsimp only
    have hz' : acc.length < 1000000 := by simp at hz; omega
    cases q : p d with
    | false =>
      rw [if_neg Bool.false_ne_true]
      rw [itL_map r acc c2 w2 s2 (by simp at hz ⊢; omega) fun d' h => t d' (List.mem_cons_of_mem _ h)]
      rw [List.filter_cons, q]
      rfl
    | true =>
      obtain ⟨c3, e3, w3, s3⟩ := k q
      rw [if_pos rfl, e3]
      dsimp only
      rw [if_pos hz']
      rw [itL_map r (acc ++ [f d]) c3 w3 s3 (by simp at hz ⊢; omega) fun d' h => t d' (List.mem_cons_of_mem _ h)]
      rw [List.filter_cons, q]
      simp
theorem dLc_map {di : M (List D)} {dg : D → M Unit} {dt : M Bool} {de : M D} {vs : List Nat} {c c0 : Stt} {ds : List D} (p : D → Bool) (f : D → D) (hi : di c = .ok ds c0) (hz : ds.length ≤ 1000000)
    (t : ∀ d ∈ ds, ∃ c1, dg d ⟨wipeD c0.r vs, c0.S⟩ = .ok () c1 ∧ ∃ c2, dt c1 = .ok (p d) c2 ∧ wipeD c2.r vs = wipeD c0.r vs ∧ c2.S = c0.S ∧ (p d = true → ∃ c3, de c2 = .ok (f d) c3 ∧ wipeD c3.r vs = wipeD c0.r vs ∧ c3.S = c0.S)) :
    dLc di dg dt de vs c = .ok ((ds.filter p).map f) ⟨backD c0.r (wipeD c0.r vs) vs, c0.S⟩ := by
  unfold dLc M.bind
  rw [hi]
  dsimp only
  rw [itL_map (p := p) (f := f) ds [] c0 rfl rfl (by simpa using hz) t]
  simp
/-! ### while -/
theorem dWhile_inv {dc : M Bool} {db : M Fl} {Inv : Nat → Stt → Prop} {Done : Stt → Prop} (t : ∀ (m : Nat) (c : Stt), Inv m c → ∃ k c1, dc c = .ok k c1 ∧ (k = false → Done c1) ∧ (k = true → ∃ f c2, db c1 = .ok f c2 ∧ (((f = .nx ∨ f = .ct) ∧ ∃ m', m' < m ∧ Inv m' c2) ∨ (f = .bk ∧ Done c2)))) :
    ∀ (m : Nat) (c : Stt), Inv m c → ∃ c', dWhile dc db c = .ok .nx c' ∧ Done c' := by
  intro m
  induction m using Nat.strongRecOn with
  | _ m ih =>
    intro c h
    obtain ⟨k, c1, e1, h1, h2⟩ := t m c h
    rw [dWhile_eq]
    unfold M.bind
    rw [e1]
    dsimp only
    cases k with
    | false => exact ⟨c1, rfl, h1 rfl⟩
    | true =>
      obtain ⟨f, c2, e2, h3⟩ := h2 rfl
      rw [if_pos rfl, e2]
      rcases h3 with ⟨hf, m', hm, h3⟩ | ⟨hf, h3⟩
      · obtain ⟨c', e3, h4⟩ := ih m' hm c2 h3
        rcases hf with rfl | rfl <;> exact ⟨c', e3, h4⟩
      · subst hf
        exact ⟨c2, rfl, h3⟩
end My

set_option Elab.async false
set_option linter.all false
set_option maxRecDepth 100000
set_option maxHeartbeats 4000000
/-! F10: reckoning with images: ==, rows of numbers, texts of numbers. -/
namespace My
open PySem L2

theorem gEq_of {neg k : Bool} {a b : O} {c : Stt} {p q : PyData} (h1 : pyO c a = some p) (h2 : pyO c b = some q) (hz : p.depth ≤ 64) (e : PyData.eqv p q = k) : gEq neg a b c = .ok (.v (.bl (if neg then !k else k))) c := by
  unfold gEq
  rw [h1, h2]
  dsimp only
  rw [if_pos hz, e]
theorem gEq_datum {α : Type} [DecidableEq α] [PySem.W.Datum α] {neg : Bool} {a b : O} {c : Stt} (x y : α) (h1 : pyO c a = some (PySem.W.Datum.toD x)) (h2 : pyO c b = some (PySem.W.Datum.toD y)) (hz : PySem.W.Datum.depth α ≤ 64 := by decide) :
    gEq neg a b c = .ok (.v (.bl (if neg then !decide (x = y) else decide (x = y)))) c := gEq_of h1 h2 (Nat.le_trans (PySem.W.Datum.depth_le x) hz) (PySem.W.Datum.eqv x y)
theorem gEq_int {neg : Bool} {i j : Int} {c : Stt} : gEq neg (.d (.v (.int i))) (.d (.v (.int j))) c = .ok (.v (.bl (if neg then !decide (i = j) else decide (i = j)))) c := gEq_datum i j rfl rfl
theorem gEq_str {neg : Bool} {i j : Str} {c : Stt} : gEq neg (.d (.v (.str i))) (.d (.v (.str j))) c = .ok (.v (.bl (if neg then !decide (i = j) else decide (i = j)))) c := gEq_datum i j rfl rfl
theorem gEq_bl {neg : Bool} {i j : Bool} {c : Stt} : gEq neg (.d (.v (.bl i))) (.d (.v (.bl j))) c = .ok (.v (.bl (if neg then !decide (i = j) else decide (i = j)))) c := gEq_datum i j rfl rfl
theorem gEq_non {neg : Bool} {c : Stt} : gEq neg (.d (.v .non)) (.d (.v .non)) c = .ok (.v (.bl (!neg))) c := by
  rw [gEq_of (k := true) (p := .none) (q := .none) rfl rfl (by decide) (by simp only [PyData.eqv])]
  cases neg <;> rfl
/-! ### rows of whole numbers -/
abbrev I (n : Int) : D := .v (.int n)
theorem intsD_map (ns : List Int) : intsD (ns.map I) = some ns := by
  induction ns with
  | nil => rfl
  | cons n ns ih =>
    show (intsD (ns.map I)).map (n :: ·) = _
    rw [ih]
    rfl
theorem intsD_eq : ∀ {ds : List D} {ns : List Int}, intsD ds = some ns → ds = ns.map I
  | [], ns, e => by unfold intsD at e; cases e; rfl
  | .v x :: ds, ns, e => by
    cases x with
    | int i =>
      unfold intsD at e
      cases q : intsD ds with
      | none => rw [q] at e; cases e
      | some ms => rw [q] at e; cases e; rw [intsD_eq q]; rfl
    | _ => unfold intsD at e; cases e
  | .tup _ :: _, _, e => by unfold intsD at e; cases e
  | .lst _ :: _, _, e => by unfold intsD at e; cases e
  | .scr _ :: _, _, e => by unfold intsD at e; cases e
  | .dct _ :: _, _, e => by unfold intsD at e; cases e
  | .ins _ _ :: _, _, e => by unfold intsD at e; cases e
  | .loc _ :: _, _, e => by unfold intsD at e; cases e
theorem intsD_len {ds : List D} {ns : List Int} (h : intsD ds = some ns) : ds.length = ns.length := by
  rw [intsD_eq h, List.length_map]
theorem atI_map {α β : Type} {f : α → β} {xs : List α} {i : Int} {d : α} (h0 : 0 ≤ i) (h1 : i < xs.length) : atI (xs.map f) i = some (f (xs.getD i.toNat d)) := by
  obtain ⟨j, rfl⟩ : ∃ j : Nat, i = j := ⟨i.toNat, by omega⟩
  have hl : j < xs.length := by omega
  rw [atI_nat (j := j) (v := f xs[j]) (by rw [List.getElem?_map, List.getElem?_eq_getElem hl]; rfl)]
  simp [List.getD, List.getElem?_eq_getElem hl]
theorem pyDs_ints (ns : List Int) : pyDs (ns.map I) = some (ns.map PyData.int) := by
  induction ns with
  | nil => rfl
  | cons n ns ih =>
    show pyDs (I n :: ns.map I) = _
    unfold pyDs
    rw [ih]
    rfl
theorem pyO_ints {c : Stt} (ns : List Int) : pyO c (.d (.lst (ns.map I))) = some (PySem.W.Datum.toD ns) := by
  show (pyDs (ns.map I)).map PyData.list = _
  rw [pyDs_ints]
  rfl
theorem gEq_ints {neg : Bool} {ns ms : List Int} {c : Stt} : gEq neg (.d (.lst (ns.map I))) (.d (.lst (ms.map I))) c = .ok (.v (.bl (if neg then !decide (ns = ms) else decide (ns = ms)))) c := gEq_datum ns ms (pyO_ints ns) (pyO_ints ms)
/-! ### texts of numbers -/
theorem gEq_pair {neg : Bool} {a b x y : Int} {c : Stt} : gEq neg (.d (.tup [.v (.int a), .v (.int b)])) (.d (.tup [.v (.int x), .v (.int y)])) c = .ok (.v (.bl (if neg then !decide (a = x ∧ b = y) else decide (a = x ∧ b = y)))) c := by
  rw [gEq_datum (a, b) (x, y) rfl rfl]
  simp only [Prod.mk.injEq]
/-- a list behind an operand -/
def opL (r : List Slot) (i : Nat) : O := match r[i]? with
  | some (.own (.lst ds)) => .d (.lst ds)
  | some (.d (.lst ds)) => .d (.lst ds)
  | _ => .sl i
theorem pyO_opL {r : List Slot} {S : List Cell} {i : Nat} : pyO ⟨r, S⟩ (opL r i) = pyO ⟨r, S⟩ (.sl i) := by
  unfold opL
  split
  · next h =>
    conv => rhs; unfold pyO
    dsimp only
    rw [h]
    unfold pyO pyD
    rfl
  · next h =>
    conv => rhs; unfold pyO
    dsimp only
    rw [h]
    unfold pyO pyD
    rfl
  · rfl
theorem gEq_sl1 {neg : Bool} {i : Nat} {b : O} {r : List Slot} {S : List Cell} : gEq neg (.sl i) b ⟨r, S⟩ = gEq neg (opL r i) b ⟨r, S⟩ := by
  unfold gEq
  rw [pyO_opL]
theorem gEq_sl2 {neg : Bool} {i : Nat} {a : O} {r : List Slot} {S : List Cell} : gEq neg a (.sl i) ⟨r, S⟩ = gEq neg a (opL r i) ⟨r, S⟩ := by
  unfold gEq
  rw [pyO_opL]
def strZ (i : Int) : Str := Str.ofString (toString i)
theorem strZ_len {i : Int} (h : i.natAbs.log2 < 1920) : (strZ i).length ≤ 1921 := PyProof.Rows.int_text_len_1921 h
theorem str_append (a b : Str) : a ++ b = ⟨a.cps ++ b.cps⟩ := rfl
theorem str_app_len (a b : Str) : (a ++ b).length = a.length + b.length := by
  show (a.cps ++ b.cps).size = _
  rw [Array.size_append]
  rfl
theorem ofString_app (a b : String) : Str.ofString (a ++ b) = Str.ofString a ++ Str.ofString b := by
  rw [Str.ofString_eq_toList, Str.ofString_eq_toList, Str.ofString_eq_toList]
  show _ = (⟨_⟩ : Str)
  congr 1
  rw [String.toList_append, List.map_append]
  simp
theorem strZ_neg {i : Int} (h : i < 0) : strZ i = ("-" : Str) ++ strZ (-i) := by
  unfold strZ
  rw [← ofString_app]
  congr 1
  cases i with
  | ofNat n => exact absurd h (Int.not_lt.mpr (Int.natCast_nonneg n))
  | negSucc n => rfl
theorem gStr_int {i : Int} {c : Stt} (h : i.natAbs < 2 ^ 1000) : gStr1 (.d (.v (.int i))) c = .ok (.v (.str (strZ i))) c := by
  exact (if_pos (Nat.lt_of_lt_of_le (log2_lt (by decide) h) (by decide)))
theorem strZ_len1 {i : Int} (h : i.natAbs < 2 ^ 1000) : (strZ i).length ≤ 1921 := strZ_len (Nat.lt_of_lt_of_le (log2_lt (by decide) h) (by decide))
/-! ### reckoning -/
theorem fmod_bd {c m : Int} (h : 0 < m) : 0 ≤ c.fmod m ∧ c.fmod m < m := by
  rw [Int.fmod_eq_emod_of_nonneg _ (by omega)]
  exact ⟨Int.emod_nonneg _ (by omega), Int.emod_lt_of_pos _ h⟩
theorem atI_fmod {α β : Type} {f : α → β} {xs : List α} {c m : Int} {d : α} (hm : (xs.length : Int) = m) (h : 0 < m) : atI (xs.map f) (c.fmod m) = some (f (xs.getD (c.fmod m).toNat d)) :=
  atI_map (fmod_bd h).1 (by rw [hm]; exact (fmod_bd h).2)
theorem dFor_of {di : M (List D)} {dg : D → M Unit} {db : M Fl} {c c0 : Stt} {ds : List D} (h : di c = .ok ds c0) : dFor di dg db c = itF dg db ds c0 := by
  unfold dFor M.bind
  rw [h]
theorem cutL_map {α β : Type} (f : α → β) (xs : List α) (lo hi : Option Int) : cutL (xs.map f) lo hi = (cutL xs lo hi).map f := by
  unfold cutL
  rw [List.length_map, List.map_take, List.map_drop]
theorem enuD_map {α : Type} (f : α → D) (xs : List α) (d : α) : enuD (xs.map f) = (List.range xs.length).map fun k => .tup [.v (.int (k : Nat)), f (xs.getD k d)] := by
  unfold enuD
  rw [List.length_map]
  apply List.map_congr_left
  intro k hk
  have hl : k < xs.length := List.mem_range.mp hk
  simp [List.getD, List.getElem?_eq_getElem hl]
theorem pyO_own {r : List Slot} {S : List Cell} {i : Nat} {ds : List D} (h : r[i]? = some (.own (.lst ds))) : pyO ⟨r, S⟩ (.sl i) = (pyDs ds).map .list := by
  unfold pyO
  dsimp only
  rw [h]
theorem isi_NoneType_bool : isiT "NoneType" "bool" = some false := by decide +kernel
theorem isi_NoneType_int : isiT "NoneType" "int" = some false := by decide +kernel
theorem isi_NoneType_str : isiT "NoneType" "str" = some false := by decide +kernel
theorem isi_NoneType_tuple : isiT "NoneType" "tuple" = some false := by decide +kernel
theorem isi_NoneType_list : isiT "NoneType" "list" = some false := by decide +kernel
theorem isi_NoneType_dict : isiT "NoneType" "dict" = some false := by decide +kernel
theorem isi_bool_bool : isiT "bool" "bool" = some true := by decide +kernel
theorem isi_bool_int : isiT "bool" "int" = some true := by decide +kernel
theorem isi_bool_str : isiT "bool" "str" = some false := by decide +kernel
theorem isi_bool_tuple : isiT "bool" "tuple" = some false := by decide +kernel
theorem isi_bool_list : isiT "bool" "list" = some false := by decide +kernel
theorem isi_bool_dict : isiT "bool" "dict" = some false := by decide +kernel
theorem isi_int_bool : isiT "int" "bool" = some false := by decide +kernel
theorem isi_int_int : isiT "int" "int" = some true := by decide +kernel
theorem isi_int_str : isiT "int" "str" = some false := by decide +kernel
theorem isi_int_tuple : isiT "int" "tuple" = some false := by decide +kernel
theorem isi_int_list : isiT "int" "list" = some false := by decide +kernel
theorem isi_int_dict : isiT "int" "dict" = some false := by decide +kernel
theorem isi_str_bool : isiT "str" "bool" = some false := by decide +kernel
theorem isi_str_int : isiT "str" "int" = some false := by decide +kernel
theorem isi_str_str : isiT "str" "str" = some true := by decide +kernel
theorem isi_str_tuple : isiT "str" "tuple" = some false := by decide +kernel
theorem isi_str_list : isiT "str" "list" = some false := by decide +kernel
theorem isi_str_dict : isiT "str" "dict" = some false := by decide +kernel
theorem isi_tuple_bool : isiT "tuple" "bool" = some false := by decide +kernel
theorem isi_tuple_int : isiT "tuple" "int" = some false := by decide +kernel
theorem isi_tuple_str : isiT "tuple" "str" = some false := by decide +kernel
theorem isi_tuple_tuple : isiT "tuple" "tuple" = some true := by decide +kernel
theorem isi_tuple_list : isiT "tuple" "list" = some false := by decide +kernel
theorem isi_tuple_dict : isiT "tuple" "dict" = some false := by decide +kernel
theorem isi_list_bool : isiT "list" "bool" = some false := by decide +kernel
theorem isi_list_int : isiT "list" "int" = some false := by decide +kernel
theorem isi_list_str : isiT "list" "str" = some false := by decide +kernel
theorem isi_list_tuple : isiT "list" "tuple" = some false := by decide +kernel
theorem isi_list_list : isiT "list" "list" = some true := by decide +kernel
theorem isi_list_dict : isiT "list" "dict" = some false := by decide +kernel
theorem isi_dict_bool : isiT "dict" "bool" = some false := by decide +kernel
theorem isi_dict_int : isiT "dict" "int" = some false := by decide +kernel
theorem isi_dict_str : isiT "dict" "str" = some false := by decide +kernel
theorem isi_dict_tuple : isiT "dict" "tuple" = some false := by decide +kernel
theorem isi_dict_list : isiT "dict" "list" = some false := by decide +kernel
theorem isi_dict_dict : isiT "dict" "dict" = some true := by decide +kernel
end My

set_option Elab.async false
set_option linter.all false
set_option maxRecDepth 100000
set_option maxHeartbeats 4000000
namespace Law
open PySem L2 My
def top (i : Nat) : Stmt := PySem.Challenge.pw_hallclock_k41_fractions_and_means.main.body.getD i (.Pass ⟨0, 0, 0, 0⟩)
structure Tx (K : PySem.W.Frag) (mg : Str → Option Value) : Prop where
  d_shared : Has K mg "shared" "shared" (top 1) ["one", "other"]
  d_shown_fraction : Has K mg "shown_fraction" "shown_fraction" (top 4) ["one"]
  d_law_cell_at : Has K mg "_law_cell_at" "_law_cell_at" (top 6) ["_law_script", "_law_k"]
  d_law_mixed : Has K mg "_law_mixed" "_law_mixed" (top 7) ["_law_cell", "_law_k"]
  d_law_parts : Has K mg "_law_parts" "_law_parts" (top 9) ["_law_one", "_law_other"]
  d_law_common : Has K mg "_law_common" "_law_common" (top 10) ["_law_one", "_law_other"]
  d_law_text : Has K mg "_law_text" "_law_text" (top 11) ["_law_one"]
  d_fraction : Has K mg "fraction" "fraction" (top 2) ["top", "bottom"]
  d_law_number : Has K mg "_law_number" "_law_number" (top 8) ["_law_cell"]
  d_law_right : Has K mg "_law_right" "_law_right" (top 12) ["_law_found", "_law_top", "_law_bottom"]
  d_mean : Has K mg "mean" "mean" (top 3) ["numbers"]
  d_law : Has K mg "law" "law" (top 13) ["_law_script"]
  n_abs : mg "abs" = none
  n_all : mg "all" = none
  n_bool : mg "bool" = none
  n_divmod : mg "divmod" = none
  n_enumerate : mg "enumerate" = none
  n_int : mg "int" = none
  n_isinstance : mg "isinstance" = none
  n_len : mg "len" = none
  n_list : mg "list" = none
  n_range : mg "range" = none
  n_str : mg "str" = none
  n_sum : mg "sum" = none
  n_tuple : mg "tuple" = none
section
variable {P : Program} {w : World} {K : PySem.W.Frag} {mg : Str → Option Value} {base : Heap}
abbrev sshared : Stmt := top 1
abbrev Nshared : List Str := ["one", "other", "rest"]
theorem scshared : FnScope Nshared ["one", "other"] (defScope sshared) := ⟨rfl, rfl, rfl, by decide +kernel, rfl, by decide +kernel, by decide +kernel⟩
noncomputable def wshared1c : M Bool :=
    (dCmpT (gI iGt) (dVar 1) (dC (.int 0)))
noncomputable def wshared1b : M Fl :=
    (dSeq (dPar 0 2 (dCons (dD (dVar 1)) (dCons (dOp gIx (okD (M.bind (dCons (dD (dVar 0)) (dCons (dD (dVar 1)) dNil)) gDm)) (dC (.int 1))) dNil)))
    (dSet 1 (dD (dVar 2))))
noncomputable def den_shared : M Fl :=
    (dSeq (dWhile wshared1c wshared1b)
    (dRet (dD (dVar 0))))
theorem raw_shared (T : Tx K mg) : Okf P w K mg base 1 "shared" ["one", "other"] (runD 3 2 den_shared) := by
  have sc := scshared
  exact ok_has (N := Nshared) T.d_shared sc rfl (by decide) fun f cdv A outer s H E hr => ⟨_, ((bd_cons (sd_while (passes_of rfl) (td_cmp cGt (ed_var 1) ed_int (nomark _)) (bd_cons (sd_par (i := 0) (j := 2) rfl sc.nd rfl rfl (by decide) rfl rfl (ad_cons (ED.d (ed_var 1)) (ad_cons (dd_ix (DD.e (dd_divmod (x := "divmod") (by rfl) T.n_divmod (by decide +kernel) (ad_cons (ED.d (ed_var 0)) (ad_cons (ED.d (ed_var 1)) ad_nil)))) ed_int (fun _ _ => rfl)) ad_nil)) (by rfl))
    (bd_one (sd_set (i := 1) sc.nd rfl (by first | exact Or.inl rfl | exact Or.inr rfl) (ED.d (ed_var 2))))))
    (bd_one (sd_ret (ED.d (ed_var 0))))) : BD _ _ _ _ den_shared)⟩

def gcdZ (a b : Int) : Int := (Int.gcd a b : Nat)
theorem gcdZ_pos {t b : Int} (h : b ≠ 0) : 0 < gcdZ t b := by
  unfold gcdZ
  have := Int.gcd_pos_of_ne_zero_right t h
  omega
theorem gcdZ_le {t b : Int} (h : b ≠ 0) : (gcdZ t b).natAbs ≤ b.natAbs := by
  unfold gcdZ
  have h1 : Int.gcd t b ∣ b.natAbs := Int.gcd_dvd_natAbs_right t b
  have := Nat.le_of_dvd (by omega) h1
  omega
theorem absZ_natAbs (i : Int) : (absZ i).natAbs = i.natAbs := by
  unfold absZ
  split <;> omega
theorem absZ_nn (i : Int) : 0 ≤ absZ i := by
  unfold absZ
  split <;> omega
theorem gcdZ_abs {t b : Int} : gcdZ (absZ t) (absZ b) = gcdZ t b := by
  unfold gcdZ
  have e1 : Int.gcd (absZ t) (absZ b) = Int.gcd t b := by
    show Nat.gcd (absZ t).natAbs (absZ b).natAbs = Nat.gcd t.natAbs b.natAbs
    rw [absZ_natAbs, absZ_natAbs]
  rw [e1]
def g_shared : G := fun ds S => match ds with
  | [.v (.int a), .v (.int b)] => if 0 ≤ a ∧ 0 ≤ b ∧ b.natAbs < 2 ^ 250 then .ok (.v (.int (gcdZ a b))) S else .no
  | _ => .no
theorem gcdZ_step {a b : Int} (ha : 0 ≤ a) (hb : 0 < b) : gcdZ b (a % b) = gcdZ a b := by
  unfold gcdZ
  have e : Int.gcd b (a % b) = Int.gcd a b := by
    rw [Int.gcd_comm a b]
    show Nat.gcd b.natAbs (a % b).natAbs = Nat.gcd b.natAbs a.natAbs
    have h1 : (a % b).natAbs = a.natAbs % b.natAbs := by
      rw [Int.natAbs_emod_of_nonneg ha]
    rw [h1, Nat.gcd_comm, ← Nat.gcd_rec, Nat.gcd_comm]
  rw [e]
theorem gcdZ_zero {a : Int} (ha : 0 ≤ a) : gcdZ a 0 = a := by
  unfold gcdZ
  rw [Int.gcd_zero_right]
  omega
theorem shared_loop (S : List Cell) : ∀ (n : Nat) (a b : Int) (x : Slot), b.toNat = n → 0 ≤ a → 0 ≤ b → b.natAbs < 2 ^ 250 →
    ∃ y, dWhile wshared1c wshared1b ⟨[.d (.v (.int a)), .d (.v (.int b)), x], S⟩ = .ok .nx ⟨[.d (.v (.int (gcdZ a b))), .d (.v (.int 0)), y], S⟩ := by
  intro n
  induction n using Nat.strongRecOn with
  | _ n ih =>
    intro a b x hn ha hb hz
    rw [dWhile_eq]
    by_cases h0 : b = 0
    · subst h0
      refine ⟨x, ?_⟩
      rw [gcdZ_zero ha]
      simp only [wshared1c, runD, dD, dNil, dCons, dAnd, dOr, dNotT, dAndV, dOrV, dNotV, dIf, dTru, dCmpT, dSeq, dRet, dSet, dSetN, dIfS, dNx, dDrop, dOp, dNeg, dTup, dLst, dC, dK, dVar, okD, okN, frz, dCall, ofF, dAug, dPar, dApp, dChain, dListOf, dSlL, dRev,
  M.bind, M.pure, M.no, M.ne, dName, dUnit, dConsG, dTupG, gOr, gI, gS, gAdd, gSubI, gMul, gDiv, gMod, gPow, gIx, gLen, gAbs, gInt1, gSum, gAll, gAny, gMaxL, gMinL, gTupOf, g2I, gDm, gPart, gTru, gBool, gBoolO, gEq_pair, gEq_ints, gEq_sl1, gEq_sl2, opL, gEq_int, gEq_str, gEq_bl, gEq_non, gNone, gIn, gSign, gCat, gRep, gIsi,
  iLt, iLe, iGt, iGe, isNon, truD, tagD, seqD, lstD, rdlD, mutD, putL, tupD, vsD, rng1X, rng2X, enuX, zipX, seqX,
  Option.bind, Option.map, Option.bind_some, Option.map_some,
  List.map_cons, List.map_nil, List.length_cons, List.length_nil, List.nil_append, List.cons_append, List.replicate, List.getElem?_cons_zero, List.getElem?_cons_succ, List.set_cons_zero, List.set_cons_succ, List.append_nil,
  if_true, if_false, ite_true, ite_false, Nat.reduceAdd, Int.reduceToNat, Int.reducePow, Nat.reducePow, Int.reduceMul, Int.reduceAdd, Int.reduceSub, Int.reduceLT, Int.reduceLE, Nat.reduceMul, Int.cast_ofNat_Int, Nat.reduceSub, Nat.reduceLT, Nat.reduceLeDiff, ne_eq, reduceCtorEq, not_false_eq_true, not_true_eq_false, Int.reduceEq, Int.reduceNeg, Bool.false_eq_true, Bool.not_true, Bool.not_false, decide_true, decide_false, true_and, and_true, false_and, and_false, or_true, true_or, or_false, false_or, id_eq, Bool.true_eq_false, decide_eq_true_eq, Bool.not_eq_true', decide_eq_false_iff_not, Bool.not_not, blsD, List.all_cons, List.all_nil, List.any_cons, List.any_nil, Bool.and_self, Bool.and_true, Bool.or_false, dFor, dLc, itL, wipeD, backD, isi_NoneType_bool, isi_NoneType_int, isi_NoneType_str, isi_NoneType_tuple, isi_NoneType_list, isi_NoneType_dict, isi_bool_bool, isi_bool_int, isi_bool_str, isi_bool_tuple, isi_bool_list, isi_bool_dict, isi_int_bool, isi_int_int, isi_int_str, isi_int_tuple, isi_int_list, isi_int_dict, isi_str_bool, isi_str_int, isi_str_str, isi_str_tuple, isi_str_list, isi_str_dict, isi_tuple_bool, isi_tuple_int, isi_tuple_str, isi_tuple_tuple, isi_tuple_list, isi_tuple_dict, isi_list_bool, isi_list_int, isi_list_str, isi_list_tuple, isi_list_list, isi_list_dict, isi_dict_bool, isi_dict_int, isi_dict_str, isi_dict_tuple, isi_dict_list, isi_dict_dict, Int.lt_irrefl]
    · have hp : 0 < b := by omega
      have hm : 0 ≤ a % b := Int.emod_nonneg a h0
      have hl : a % b < b := Int.emod_lt_of_pos a hp
      have hg : 0 < b ∧ b.natAbs.log2 < 9000 := ⟨hp, Nat.lt_of_lt_of_le (log2_lt (by decide) hz) (by decide)⟩
      obtain ⟨y, e⟩ := ih (a % b).toNat (by omega) b (a % b) (.d (.v (.int (a % b)))) rfl hb hm (by omega)
      refine ⟨y, ?_⟩
      have a1 : atI [D.v (V.int (a / b)), D.v (V.int (a % b))] 1 = some (.v (.int (a % b))) := rfl
      rw [gcdZ_step ha hp] at e
      simp only [wshared1c, wshared1b, runD, dD, dNil, dCons, dAnd, dOr, dNotT, dAndV, dOrV, dNotV, dIf, dTru, dCmpT, dSeq, dRet, dSet, dSetN, dIfS, dNx, dDrop, dOp, dNeg, dTup, dLst, dC, dK, dVar, okD, okN, frz, dCall, ofF, dAug, dPar, dApp, dChain, dListOf, dSlL, dRev,
  M.bind, M.pure, M.no, M.ne, dName, dUnit, dConsG, dTupG, gOr, gI, gS, gAdd, gSubI, gMul, gDiv, gMod, gPow, gIx, gLen, gAbs, gInt1, gSum, gAll, gAny, gMaxL, gMinL, gTupOf, g2I, gDm, gPart, gTru, gBool, gBoolO, gEq_pair, gEq_ints, gEq_sl1, gEq_sl2, opL, gEq_int, gEq_str, gEq_bl, gEq_non, gNone, gIn, gSign, gCat, gRep, gIsi,
  iLt, iLe, iGt, iGe, isNon, truD, tagD, seqD, lstD, rdlD, mutD, putL, tupD, vsD, rng1X, rng2X, enuX, zipX, seqX,
  Option.bind, Option.map, Option.bind_some, Option.map_some,
  List.map_cons, List.map_nil, List.length_cons, List.length_nil, List.nil_append, List.cons_append, List.replicate, List.getElem?_cons_zero, List.getElem?_cons_succ, List.set_cons_zero, List.set_cons_succ, List.append_nil,
  if_true, if_false, ite_true, ite_false, Nat.reduceAdd, Int.reduceToNat, Int.reducePow, Nat.reducePow, Int.reduceMul, Int.reduceAdd, Int.reduceSub, Int.reduceLT, Int.reduceLE, Nat.reduceMul, Int.cast_ofNat_Int, Nat.reduceSub, Nat.reduceLT, Nat.reduceLeDiff, ne_eq, reduceCtorEq, not_false_eq_true, not_true_eq_false, Int.reduceEq, Int.reduceNeg, Bool.false_eq_true, Bool.not_true, Bool.not_false, decide_true, decide_false, true_and, and_true, false_and, and_false, or_true, true_or, or_false, false_or, id_eq, Bool.true_eq_false, decide_eq_true_eq, Bool.not_eq_true', decide_eq_false_iff_not, Bool.not_not, blsD, List.all_cons, List.all_nil, List.any_cons, List.any_nil, Bool.and_self, Bool.and_true, Bool.or_false, dFor, dLc, itL, wipeD, backD, isi_NoneType_bool, isi_NoneType_int, isi_NoneType_str, isi_NoneType_tuple, isi_NoneType_list, isi_NoneType_dict, isi_bool_bool, isi_bool_int, isi_bool_str, isi_bool_tuple, isi_bool_list, isi_bool_dict, isi_int_bool, isi_int_int, isi_int_str, isi_int_tuple, isi_int_list, isi_int_dict, isi_str_bool, isi_str_int, isi_str_str, isi_str_tuple, isi_str_list, isi_str_dict, isi_tuple_bool, isi_tuple_int, isi_tuple_str, isi_tuple_tuple, isi_tuple_list, isi_tuple_dict, isi_list_bool, isi_list_int, isi_list_str, isi_list_tuple, isi_list_list, isi_list_dict, isi_dict_bool, isi_dict_int, isi_dict_str, isi_dict_tuple, isi_dict_list, isi_dict_dict, hp, hg, a1]
      exact e
theorem eq_shared : ∀ ds S, g_shared ds S ≠ .no → runD 3 2 den_shared ds S = g_shared ds S := fun ds S h => by
  unfold g_shared at h ⊢
  split at h
  · next a b =>
    split at h
    · next hk =>
      obtain ⟨y, e⟩ := shared_loop S _ a b .no rfl hk.1 hk.2.1 hk.2.2
      rw [if_pos hk]
      simp only [den_shared, runD, dD, dNil, dCons, dAnd, dOr, dNotT, dAndV, dOrV, dNotV, dIf, dTru, dCmpT, dSeq, dRet, dSet, dSetN, dIfS, dNx, dDrop, dOp, dNeg, dTup, dLst, dC, dK, dVar, okD, okN, frz, dCall, ofF, dAug, dPar, dApp, dChain, dListOf, dSlL, dRev,
  M.bind, M.pure, M.no, M.ne, dName, dUnit, dConsG, dTupG, gOr, gI, gS, gAdd, gSubI, gMul, gDiv, gMod, gPow, gIx, gLen, gAbs, gInt1, gSum, gAll, gAny, gMaxL, gMinL, gTupOf, g2I, gDm, gPart, gTru, gBool, gBoolO, gEq_pair, gEq_ints, gEq_sl1, gEq_sl2, opL, gEq_int, gEq_str, gEq_bl, gEq_non, gNone, gIn, gSign, gCat, gRep, gIsi,
  iLt, iLe, iGt, iGe, isNon, truD, tagD, seqD, lstD, rdlD, mutD, putL, tupD, vsD, rng1X, rng2X, enuX, zipX, seqX,
  Option.bind, Option.map, Option.bind_some, Option.map_some,
  List.map_cons, List.map_nil, List.length_cons, List.length_nil, List.nil_append, List.cons_append, List.replicate, List.getElem?_cons_zero, List.getElem?_cons_succ, List.set_cons_zero, List.set_cons_succ, List.append_nil,
  if_true, if_false, ite_true, ite_false, Nat.reduceAdd, Int.reduceToNat, Int.reducePow, Nat.reducePow, Int.reduceMul, Int.reduceAdd, Int.reduceSub, Int.reduceLT, Int.reduceLE, Nat.reduceMul, Int.cast_ofNat_Int, Nat.reduceSub, Nat.reduceLT, Nat.reduceLeDiff, ne_eq, reduceCtorEq, not_false_eq_true, not_true_eq_false, Int.reduceEq, Int.reduceNeg, Bool.false_eq_true, Bool.not_true, Bool.not_false, decide_true, decide_false, true_and, and_true, false_and, and_false, or_true, true_or, or_false, false_or, id_eq, Bool.true_eq_false, decide_eq_true_eq, Bool.not_eq_true', decide_eq_false_iff_not, Bool.not_not, blsD, List.all_cons, List.all_nil, List.any_cons, List.any_nil, Bool.and_self, Bool.and_true, Bool.or_false, dFor, dLc, itL, wipeD, backD, isi_NoneType_bool, isi_NoneType_int, isi_NoneType_str, isi_NoneType_tuple, isi_NoneType_list, isi_NoneType_dict, isi_bool_bool, isi_bool_int, isi_bool_str, isi_bool_tuple, isi_bool_list, isi_bool_dict, isi_int_bool, isi_int_int, isi_int_str, isi_int_tuple, isi_int_list, isi_int_dict, isi_str_bool, isi_str_int, isi_str_str, isi_str_tuple, isi_str_list, isi_str_dict, isi_tuple_bool, isi_tuple_int, isi_tuple_str, isi_tuple_tuple, isi_tuple_list, isi_tuple_dict, isi_list_bool, isi_list_int, isi_list_str, isi_list_tuple, isi_list_list, isi_list_dict, isi_dict_bool, isi_dict_int, isi_dict_str, isi_dict_tuple, isi_dict_list, isi_dict_dict, e]
    · exact absurd rfl h
  · exact absurd rfl h
theorem ok_shared (T : Tx K mg) : Okf P w K mg base 1 "shared" ["one", "other"] g_shared := (raw_shared T ).by eq_shared
abbrev sshown_fraction : Stmt := top 4
abbrev Nshown_fraction : List Str := ["one"]
theorem scshown_fraction : FnScope Nshown_fraction ["one"] (defScope sshown_fraction) := ⟨rfl, rfl, rfl, by decide +kernel, rfl, by decide +kernel, by decide +kernel⟩
noncomputable def den_shown_fraction : M Fl :=
    (dSeq (dIfS (dCmpT (gEq false) (okD (dOp gIx (dVar 0) (dC (.int 1)))) (dC (.int 1))) (dRet (M.bind (okD (dOp gIx (dVar 0) (dC (.int 0)))) gStr1)) dNx)
    (dRet (dOp gAdd (okD (dOp gAdd (okD (M.bind (okD (dOp gIx (dVar 0) (dC (.int 0)))) gStr1)) (dC (.str "/")))) (okD (M.bind (okD (dOp gIx (dVar 0) (dC (.int 1)))) gStr1)))))
theorem raw_shown_fraction (T : Tx K mg) : Okf P w K mg base 1 "shown_fraction" ["one"] (runD 1 1 den_shown_fraction) := by
  have sc := scshown_fraction
  exact ok_has (N := Nshown_fraction) T.d_shown_fraction sc rfl (by decide) fun f cdv A outer s H E hr => ⟨_, ((bd_cons (sd_if (td_cmp (cEq hr.units) (DD.e (dd_ix (ed_var 0) ed_int (fun _ _ => rfl))) ed_int (nomark _)) (bd_one (sd_ret (dd_t1 bStr (by rfl) T.n_str (by decide +kernel) (DD.e (dd_ix (ed_var 0) ed_int (fun _ _ => rfl)))))) bd_nil)
    (bd_one (sd_ret (dd_add (DD.e (dd_add (DD.e (dd_t1 bStr (by rfl) T.n_str (by decide +kernel) (DD.e (dd_ix (ed_var 0) ed_int (fun _ _ => rfl))))) ed_str)) (DD.e (dd_t1 bStr (by rfl) T.n_str (by decide +kernel) (DD.e (dd_ix (ed_var 0) ed_int (fun _ _ => rfl))))))))) : BD _ _ _ _ den_shown_fraction)⟩

def txt (p : Int × Int) : Str := if p.2 = 1 then strZ p.1 else strZ p.1 ++ "/" ++ strZ p.2
def g_shown_fraction : G := fun ds S => match ds with
  | [.tup [.v (.int a), .v (.int b)]] => if a.natAbs < 2 ^ 1000 ∧ b.natAbs < 2 ^ 1000 then .ok (.v (.str (txt (a, b)))) S else .no
  | _ => .no
theorem eq_shown_fraction : ∀ ds S, g_shown_fraction ds S ≠ .no → runD 1 1 den_shown_fraction ds S = g_shown_fraction ds S := fun ds S h => by
  unfold g_shown_fraction at h ⊢
  split at h
  · next a b =>
    split at h
    · next hk =>
      rw [if_pos hk]
      have a0 : atI [D.v (V.int a), D.v (V.int b)] 0 = some (.v (.int a)) := rfl
      have a1 : atI [D.v (V.int a), D.v (V.int b)] 1 = some (.v (.int b)) := rfl
      have l1 := strZ_len1 hk.1
      have l2 := strZ_len1 hk.2
      have l3 : (("/" : Str)).length = 1 := rfl
      unfold txt
      by_cases h1 : b = 1
      · subst h1
        simp only [den_shown_fraction, runD, dD, dNil, dCons, dAnd, dOr, dNotT, dAndV, dOrV, dNotV, dIf, dTru, dCmpT, dSeq, dRet, dSet, dSetN, dIfS, dNx, dDrop, dOp, dNeg, dTup, dLst, dC, dK, dVar, okD, okN, frz, dCall, ofF, dAug, dPar, dApp, dChain, dListOf, dSlL, dRev,
  M.bind, M.pure, M.no, M.ne, dName, dUnit, dConsG, dTupG, gOr, gI, gS, gAdd, gSubI, gMul, gDiv, gMod, gPow, gIx, gLen, gAbs, gInt1, gSum, gAll, gAny, gMaxL, gMinL, gTupOf, g2I, gDm, gPart, gTru, gBool, gBoolO, gEq_pair, gEq_ints, gEq_sl1, gEq_sl2, opL, gEq_int, gEq_str, gEq_bl, gEq_non, gNone, gIn, gSign, gCat, gRep, gIsi,
  iLt, iLe, iGt, iGe, isNon, truD, tagD, seqD, lstD, rdlD, mutD, putL, tupD, vsD, rng1X, rng2X, enuX, zipX, seqX,
  Option.bind, Option.map, Option.bind_some, Option.map_some,
  List.map_cons, List.map_nil, List.length_cons, List.length_nil, List.nil_append, List.cons_append, List.replicate, List.getElem?_cons_zero, List.getElem?_cons_succ, List.set_cons_zero, List.set_cons_succ, List.append_nil,
  if_true, if_false, ite_true, ite_false, Nat.reduceAdd, Int.reduceToNat, Int.reducePow, Nat.reducePow, Int.reduceMul, Int.reduceAdd, Int.reduceSub, Int.reduceLT, Int.reduceLE, Nat.reduceMul, Int.cast_ofNat_Int, Nat.reduceSub, Nat.reduceLT, Nat.reduceLeDiff, ne_eq, reduceCtorEq, not_false_eq_true, not_true_eq_false, Int.reduceEq, Int.reduceNeg, Bool.false_eq_true, Bool.not_true, Bool.not_false, decide_true, decide_false, true_and, and_true, false_and, and_false, or_true, true_or, or_false, false_or, id_eq, Bool.true_eq_false, decide_eq_true_eq, Bool.not_eq_true', decide_eq_false_iff_not, Bool.not_not, blsD, List.all_cons, List.all_nil, List.any_cons, List.any_nil, Bool.and_self, Bool.and_true, Bool.or_false, dFor, dLc, itL, wipeD, backD, isi_NoneType_bool, isi_NoneType_int, isi_NoneType_str, isi_NoneType_tuple, isi_NoneType_list, isi_NoneType_dict, isi_bool_bool, isi_bool_int, isi_bool_str, isi_bool_tuple, isi_bool_list, isi_bool_dict, isi_int_bool, isi_int_int, isi_int_str, isi_int_tuple, isi_int_list, isi_int_dict, isi_str_bool, isi_str_int, isi_str_str, isi_str_tuple, isi_str_list, isi_str_dict, isi_tuple_bool, isi_tuple_int, isi_tuple_str, isi_tuple_tuple, isi_tuple_list, isi_tuple_dict, isi_list_bool, isi_list_int, isi_list_str, isi_list_tuple, isi_list_list, isi_list_dict, isi_dict_bool, isi_dict_int, isi_dict_str, isi_dict_tuple, isi_dict_list, isi_dict_dict, a0, a1, gStr_int hk.1]
      · have c1 : (strZ a).length + (("/" : Str)).length ≤ 1000000 := by omega
        have c2 : (strZ a ++ ("/" : Str)).length + (strZ b).length ≤ 1000000 := by rw [str_app_len]; omega
        simp only [den_shown_fraction, runD, dD, dNil, dCons, dAnd, dOr, dNotT, dAndV, dOrV, dNotV, dIf, dTru, dCmpT, dSeq, dRet, dSet, dSetN, dIfS, dNx, dDrop, dOp, dNeg, dTup, dLst, dC, dK, dVar, okD, okN, frz, dCall, ofF, dAug, dPar, dApp, dChain, dListOf, dSlL, dRev,
  M.bind, M.pure, M.no, M.ne, dName, dUnit, dConsG, dTupG, gOr, gI, gS, gAdd, gSubI, gMul, gDiv, gMod, gPow, gIx, gLen, gAbs, gInt1, gSum, gAll, gAny, gMaxL, gMinL, gTupOf, g2I, gDm, gPart, gTru, gBool, gBoolO, gEq_pair, gEq_ints, gEq_sl1, gEq_sl2, opL, gEq_int, gEq_str, gEq_bl, gEq_non, gNone, gIn, gSign, gCat, gRep, gIsi,
  iLt, iLe, iGt, iGe, isNon, truD, tagD, seqD, lstD, rdlD, mutD, putL, tupD, vsD, rng1X, rng2X, enuX, zipX, seqX,
  Option.bind, Option.map, Option.bind_some, Option.map_some,
  List.map_cons, List.map_nil, List.length_cons, List.length_nil, List.nil_append, List.cons_append, List.replicate, List.getElem?_cons_zero, List.getElem?_cons_succ, List.set_cons_zero, List.set_cons_succ, List.append_nil,
  if_true, if_false, ite_true, ite_false, Nat.reduceAdd, Int.reduceToNat, Int.reducePow, Nat.reducePow, Int.reduceMul, Int.reduceAdd, Int.reduceSub, Int.reduceLT, Int.reduceLE, Nat.reduceMul, Int.cast_ofNat_Int, Nat.reduceSub, Nat.reduceLT, Nat.reduceLeDiff, ne_eq, reduceCtorEq, not_false_eq_true, not_true_eq_false, Int.reduceEq, Int.reduceNeg, Bool.false_eq_true, Bool.not_true, Bool.not_false, decide_true, decide_false, true_and, and_true, false_and, and_false, or_true, true_or, or_false, false_or, id_eq, Bool.true_eq_false, decide_eq_true_eq, Bool.not_eq_true', decide_eq_false_iff_not, Bool.not_not, blsD, List.all_cons, List.all_nil, List.any_cons, List.any_nil, Bool.and_self, Bool.and_true, Bool.or_false, dFor, dLc, itL, wipeD, backD, isi_NoneType_bool, isi_NoneType_int, isi_NoneType_str, isi_NoneType_tuple, isi_NoneType_list, isi_NoneType_dict, isi_bool_bool, isi_bool_int, isi_bool_str, isi_bool_tuple, isi_bool_list, isi_bool_dict, isi_int_bool, isi_int_int, isi_int_str, isi_int_tuple, isi_int_list, isi_int_dict, isi_str_bool, isi_str_int, isi_str_str, isi_str_tuple, isi_str_list, isi_str_dict, isi_tuple_bool, isi_tuple_int, isi_tuple_str, isi_tuple_tuple, isi_tuple_list, isi_tuple_dict, isi_list_bool, isi_list_int, isi_list_str, isi_list_tuple, isi_list_list, isi_list_dict, isi_dict_bool, isi_dict_int, isi_dict_str, isi_dict_tuple, isi_dict_list, isi_dict_dict, a0, a1, h1, gStr_int hk.1, gStr_int hk.2, c1, c2]
    · exact absurd rfl h
  · exact absurd rfl h
theorem ok_shown_fraction (T : Tx K mg) : Okf P w K mg base 1 "shown_fraction" ["one"] g_shown_fraction := (raw_shown_fraction T ).by eq_shown_fraction
abbrev slaw_cell_at : Stmt := top 6
abbrev Nlaw_cell_at : List Str := ["_law_script", "_law_k"]
theorem sclaw_cell_at : FnScope Nlaw_cell_at ["_law_script", "_law_k"] (defScope slaw_cell_at) := ⟨rfl, rfl, rfl, by decide +kernel, rfl, by decide +kernel, by decide +kernel⟩
noncomputable def den_law_cell_at : M Fl :=
    (dSeq (dIfS (dCmpT (gI iLt) (dVar 1) (okD (M.bind (dVar 0) gLen))) (dRet (dOp gIx (dVar 0) (dVar 1))) dNx)
    (dRet (dD (dC (.int 0)))))
theorem raw_law_cell_at (T : Tx K mg) : Okf P w K mg base 1 "_law_cell_at" ["_law_script", "_law_k"] (runD 2 2 den_law_cell_at) := by
  have sc := sclaw_cell_at
  exact ok_has (N := Nlaw_cell_at) T.d_law_cell_at sc rfl (by decide) fun f cdv A outer s H E hr => ⟨_, ((bd_cons (sd_if (td_cmp cLt (ed_var 1) (DD.e (dd_b1 bLen (by rfl) T.n_len (by decide +kernel) (ed_var 0))) (nomark _)) (bd_one (sd_ret (dd_ix (ed_var 0) (ed_var 1) (fun _ _ => rfl)))) bd_nil)
    (bd_one (sd_ret (ED.d ed_int)))) : BD _ _ _ _ den_law_cell_at)⟩

def g_law_cell_at : G := fun ds S => match ds with
  | [.scr es, .v (.int k)] => match intsD es with
    | some ns => if 0 ≤ k then .ok (.v (.int (ns.getD k.toNat 0))) S else .no
    | none => .no
  | _ => .no
theorem eq_law_cell_at : ∀ ds S, g_law_cell_at ds S ≠ .no → runD 2 2 den_law_cell_at ds S = g_law_cell_at ds S := fun ds S h => by
  unfold g_law_cell_at at h ⊢
  split at h
  · next es k =>
    split at h
    · next ns hn =>
      split at h
      · next hk =>
        rw [if_pos hk]
        rw [intsD_eq hn]
        by_cases hl : k < ns.length
        · have a1 : atI (ns.map I) k = some (.v (.int (ns.getD k.toNat 0))) := atI_map (f := I) hk hl
          simp only [den_law_cell_at, runD, dD, dNil, dCons, dAnd, dOr, dNotT, dAndV, dOrV, dNotV, dIf, dTru, dCmpT, dSeq, dRet, dSet, dSetN, dIfS, dNx, dDrop, dOp, dNeg, dTup, dLst, dC, dK, dVar, okD, okN, frz, dCall, ofF, dAug, dPar, dApp, dChain, dListOf, dSlL, dRev,
  M.bind, M.pure, M.no, M.ne, dName, dUnit, dConsG, dTupG, gOr, gI, gS, gAdd, gSubI, gMul, gDiv, gMod, gPow, gIx, gLen, gAbs, gInt1, gSum, gAll, gAny, gMaxL, gMinL, gTupOf, g2I, gDm, gPart, gTru, gBool, gBoolO, gEq_pair, gEq_ints, gEq_sl1, gEq_sl2, opL, gEq_int, gEq_str, gEq_bl, gEq_non, gNone, gIn, gSign, gCat, gRep, gIsi,
  iLt, iLe, iGt, iGe, isNon, truD, tagD, seqD, lstD, rdlD, mutD, putL, tupD, vsD, rng1X, rng2X, enuX, zipX, seqX,
  Option.bind, Option.map, Option.bind_some, Option.map_some,
  List.map_cons, List.map_nil, List.length_cons, List.length_nil, List.nil_append, List.cons_append, List.replicate, List.getElem?_cons_zero, List.getElem?_cons_succ, List.set_cons_zero, List.set_cons_succ, List.append_nil,
  if_true, if_false, ite_true, ite_false, Nat.reduceAdd, Int.reduceToNat, Int.reducePow, Nat.reducePow, Int.reduceMul, Int.reduceAdd, Int.reduceSub, Int.reduceLT, Int.reduceLE, Nat.reduceMul, Int.cast_ofNat_Int, Nat.reduceSub, Nat.reduceLT, Nat.reduceLeDiff, ne_eq, reduceCtorEq, not_false_eq_true, not_true_eq_false, Int.reduceEq, Int.reduceNeg, Bool.false_eq_true, Bool.not_true, Bool.not_false, decide_true, decide_false, true_and, and_true, false_and, and_false, or_true, true_or, or_false, false_or, id_eq, Bool.true_eq_false, decide_eq_true_eq, Bool.not_eq_true', decide_eq_false_iff_not, Bool.not_not, blsD, List.all_cons, List.all_nil, List.any_cons, List.any_nil, Bool.and_self, Bool.and_true, Bool.or_false, dFor, dLc, itL, wipeD, backD, isi_NoneType_bool, isi_NoneType_int, isi_NoneType_str, isi_NoneType_tuple, isi_NoneType_list, isi_NoneType_dict, isi_bool_bool, isi_bool_int, isi_bool_str, isi_bool_tuple, isi_bool_list, isi_bool_dict, isi_int_bool, isi_int_int, isi_int_str, isi_int_tuple, isi_int_list, isi_int_dict, isi_str_bool, isi_str_int, isi_str_str, isi_str_tuple, isi_str_list, isi_str_dict, isi_tuple_bool, isi_tuple_int, isi_tuple_str, isi_tuple_tuple, isi_tuple_list, isi_tuple_dict, isi_list_bool, isi_list_int, isi_list_str, isi_list_tuple, isi_list_list, isi_list_dict, isi_dict_bool, isi_dict_int, isi_dict_str, isi_dict_tuple, isi_dict_list, isi_dict_dict, hl, List.length_map, a1]
        · have e : ns.getD k.toNat 0 = 0 := by
            rw [List.getD_eq_getElem?_getD, List.getElem?_eq_none (by omega)]
            rfl
          simp only [den_law_cell_at, runD, dD, dNil, dCons, dAnd, dOr, dNotT, dAndV, dOrV, dNotV, dIf, dTru, dCmpT, dSeq, dRet, dSet, dSetN, dIfS, dNx, dDrop, dOp, dNeg, dTup, dLst, dC, dK, dVar, okD, okN, frz, dCall, ofF, dAug, dPar, dApp, dChain, dListOf, dSlL, dRev,
  M.bind, M.pure, M.no, M.ne, dName, dUnit, dConsG, dTupG, gOr, gI, gS, gAdd, gSubI, gMul, gDiv, gMod, gPow, gIx, gLen, gAbs, gInt1, gSum, gAll, gAny, gMaxL, gMinL, gTupOf, g2I, gDm, gPart, gTru, gBool, gBoolO, gEq_pair, gEq_ints, gEq_sl1, gEq_sl2, opL, gEq_int, gEq_str, gEq_bl, gEq_non, gNone, gIn, gSign, gCat, gRep, gIsi,
  iLt, iLe, iGt, iGe, isNon, truD, tagD, seqD, lstD, rdlD, mutD, putL, tupD, vsD, rng1X, rng2X, enuX, zipX, seqX,
  Option.bind, Option.map, Option.bind_some, Option.map_some,
  List.map_cons, List.map_nil, List.length_cons, List.length_nil, List.nil_append, List.cons_append, List.replicate, List.getElem?_cons_zero, List.getElem?_cons_succ, List.set_cons_zero, List.set_cons_succ, List.append_nil,
  if_true, if_false, ite_true, ite_false, Nat.reduceAdd, Int.reduceToNat, Int.reducePow, Nat.reducePow, Int.reduceMul, Int.reduceAdd, Int.reduceSub, Int.reduceLT, Int.reduceLE, Nat.reduceMul, Int.cast_ofNat_Int, Nat.reduceSub, Nat.reduceLT, Nat.reduceLeDiff, ne_eq, reduceCtorEq, not_false_eq_true, not_true_eq_false, Int.reduceEq, Int.reduceNeg, Bool.false_eq_true, Bool.not_true, Bool.not_false, decide_true, decide_false, true_and, and_true, false_and, and_false, or_true, true_or, or_false, false_or, id_eq, Bool.true_eq_false, decide_eq_true_eq, Bool.not_eq_true', decide_eq_false_iff_not, Bool.not_not, blsD, List.all_cons, List.all_nil, List.any_cons, List.any_nil, Bool.and_self, Bool.and_true, Bool.or_false, dFor, dLc, itL, wipeD, backD, isi_NoneType_bool, isi_NoneType_int, isi_NoneType_str, isi_NoneType_tuple, isi_NoneType_list, isi_NoneType_dict, isi_bool_bool, isi_bool_int, isi_bool_str, isi_bool_tuple, isi_bool_list, isi_bool_dict, isi_int_bool, isi_int_int, isi_int_str, isi_int_tuple, isi_int_list, isi_int_dict, isi_str_bool, isi_str_int, isi_str_str, isi_str_tuple, isi_str_list, isi_str_dict, isi_tuple_bool, isi_tuple_int, isi_tuple_str, isi_tuple_tuple, isi_tuple_list, isi_tuple_dict, isi_list_bool, isi_list_int, isi_list_str, isi_list_tuple, isi_list_list, isi_list_dict, isi_dict_bool, isi_dict_int, isi_dict_str, isi_dict_tuple, isi_dict_list, isi_dict_dict, hl, List.length_map, e]
      · exact absurd rfl h
    · exact absurd rfl h
  · exact absurd rfl h
theorem gc (ns : List Int) (k : Int) (S : List Cell) (h : 0 ≤ k) : g_law_cell_at [scr ns, .v (.int k)] S = .ok (.v (.int (ns.getD k.toNat 0))) S := by
  show (match intsD (ns.map I) with | some ns => if 0 ≤ k then RF.ok (.v (.int (ns.getD k.toNat 0))) S else .no | none => .no) = _
  rw [intsD_map]
  exact if_pos h
theorem ok_law_cell_at (T : Tx K mg) : Okf P w K mg base 1 "_law_cell_at" ["_law_script", "_law_k"] g_law_cell_at := (raw_law_cell_at T ).by eq_law_cell_at
abbrev slaw_mixed : Stmt := top 7
abbrev Nlaw_mixed : List Str := ["_law_cell", "_law_k"]
theorem sclaw_mixed : FnScope Nlaw_mixed ["_law_cell", "_law_k"] (defScope slaw_mixed) := ⟨rfl, rfl, rfl, by decide +kernel, rfl, by decide +kernel, by decide +kernel⟩
noncomputable def den_law_mixed : M Fl :=
    (dRet (dOp gMod (okD (dOp gAdd (okD (dOp gMul (okD (dOp gAdd (okD (dOp gMod (dVar 0) (dC (.int 1000003)))) (dC (.int 7)))) (okD (dOp gAdd (okD (dOp gMul (okD (dOp gMul (dC (.int 31)) (dVar 1))) (dVar 1))) (dC (.int 48271)))))) (okD (dOp gMul (okD (dOp gDiv (dVar 0) (dC (.int 1000003)))) (dC (.int 16807)))))) (dC (.int 2147483629))))
theorem raw_law_mixed (T : Tx K mg) : Okf P w K mg base 1 "_law_mixed" ["_law_cell", "_law_k"] (runD 2 2 den_law_mixed) := by
  have sc := sclaw_mixed
  exact ok_has (N := Nlaw_mixed) T.d_law_mixed sc rfl (by decide) fun f cdv A outer s H E hr => ⟨_, ((bd_one (sd_ret (dd_mod (DD.e (dd_add (DD.e (dd_mul (DD.e (dd_add (DD.e (dd_mod (ed_var 0) ed_int)) ed_int)) (DD.e (dd_add (DD.e (dd_mul (DD.e (dd_mul ed_int (ed_var 1))) (ed_var 1))) ed_int)))) (DD.e (dd_mul (DD.e (dd_div (ed_var 0) ed_int)) ed_int)))) ed_int))) : BD _ _ _ _ den_law_mixed)⟩

def mixed (c k : Int) : Int := ((c.fmod 1000003 + 7) * (31 * k * k + 48271) + c.fdiv 1000003 * 16807).fmod 2147483629
def g_law_mixed : G := fun ds S => match ds with
  | [.v (.int c), .v (.int k)] => if k.natAbs < 2 ^ 64 then .ok (.v (.int (mixed c k))) S else .no
  | _ => .no
theorem eq_law_mixed : ∀ ds S, g_law_mixed ds S ≠ .no → runD 2 2 den_law_mixed ds S = g_law_mixed ds S := fun ds S h => by
  unfold g_law_mixed at h ⊢
  split at h
  · next c k =>
    split at h
    · next hk =>
      rw [if_pos hk]
      have b := fmod_bd (c := c) (m := 1000003) (by decide)
      have m1 : mulOk 31 k := mulOk_l (by decide)
      have m2 : mulOk (31 * k) k := mulOk_r hk
      have m3 : mulOk (c.fmod 1000003 + 7) (31 * k * k + 48271) := mulOk_l (by omega)
      have m4 : mulOk (c.fdiv 1000003) 16807 := mulOk_r (by decide)
      have d1 : divOk 1000003 := divOk_s (by decide) (by decide)
      simp only [den_law_mixed, runD, dD, dNil, dCons, dAnd, dOr, dNotT, dAndV, dOrV, dNotV, dIf, dTru, dCmpT, dSeq, dRet, dSet, dSetN, dIfS, dNx, dDrop, dOp, dNeg, dTup, dLst, dC, dK, dVar, okD, okN, frz, dCall, ofF, dAug, dPar, dApp, dChain, dListOf, dSlL, dRev,
  M.bind, M.pure, M.no, M.ne, dName, dUnit, dConsG, dTupG, gOr, gI, gS, gAdd, gSubI, gMul, gDiv, gMod, gPow, gIx, gLen, gAbs, gInt1, gSum, gAll, gAny, gMaxL, gMinL, gTupOf, g2I, gDm, gPart, gTru, gBool, gBoolO, gEq_pair, gEq_ints, gEq_sl1, gEq_sl2, opL, gEq_int, gEq_str, gEq_bl, gEq_non, gNone, gIn, gSign, gCat, gRep, gIsi,
  iLt, iLe, iGt, iGe, isNon, truD, tagD, seqD, lstD, rdlD, mutD, putL, tupD, vsD, rng1X, rng2X, enuX, zipX, seqX,
  Option.bind, Option.map, Option.bind_some, Option.map_some,
  List.map_cons, List.map_nil, List.length_cons, List.length_nil, List.nil_append, List.cons_append, List.replicate, List.getElem?_cons_zero, List.getElem?_cons_succ, List.set_cons_zero, List.set_cons_succ, List.append_nil,
  if_true, if_false, ite_true, ite_false, Nat.reduceAdd, Int.reduceToNat, Int.reducePow, Nat.reducePow, Int.reduceMul, Int.reduceAdd, Int.reduceSub, Int.reduceLT, Int.reduceLE, Nat.reduceMul, Int.cast_ofNat_Int, Nat.reduceSub, Nat.reduceLT, Nat.reduceLeDiff, ne_eq, reduceCtorEq, not_false_eq_true, not_true_eq_false, Int.reduceEq, Int.reduceNeg, Bool.false_eq_true, Bool.not_true, Bool.not_false, decide_true, decide_false, true_and, and_true, false_and, and_false, or_true, true_or, or_false, false_or, id_eq, Bool.true_eq_false, decide_eq_true_eq, Bool.not_eq_true', decide_eq_false_iff_not, Bool.not_not, blsD, List.all_cons, List.all_nil, List.any_cons, List.any_nil, Bool.and_self, Bool.and_true, Bool.or_false, dFor, dLc, itL, wipeD, backD, isi_NoneType_bool, isi_NoneType_int, isi_NoneType_str, isi_NoneType_tuple, isi_NoneType_list, isi_NoneType_dict, isi_bool_bool, isi_bool_int, isi_bool_str, isi_bool_tuple, isi_bool_list, isi_bool_dict, isi_int_bool, isi_int_int, isi_int_str, isi_int_tuple, isi_int_list, isi_int_dict, isi_str_bool, isi_str_int, isi_str_str, isi_str_tuple, isi_str_list, isi_str_dict, isi_tuple_bool, isi_tuple_int, isi_tuple_str, isi_tuple_tuple, isi_tuple_list, isi_tuple_dict, isi_list_bool, isi_list_int, isi_list_str, isi_list_tuple, isi_list_list, isi_list_dict, isi_dict_bool, isi_dict_int, isi_dict_str, isi_dict_tuple, isi_dict_list, isi_dict_dict, m1, m2, m3, m4, d1, mixed]
    · exact absurd rfl h
  · exact absurd rfl h
theorem gx (c k : Int) (S : List Cell) (h : k.natAbs < 2 ^ 64) : g_law_mixed [.v (.int c), .v (.int k)] S = .ok (.v (.int (mixed c k))) S := if_pos h
theorem mixed_bd (c k : Int) : 0 ≤ mixed c k ∧ mixed c k < 2147483629 := fmod_bd (by decide)
theorem ok_law_mixed (T : Tx K mg) : Okf P w K mg base 1 "_law_mixed" ["_law_cell", "_law_k"] g_law_mixed := (raw_law_mixed T ).by eq_law_mixed
abbrev slaw_parts : Stmt := top 9
abbrev Nlaw_parts : List Str := ["_law_one", "_law_other", "_law_part"]
theorem sclaw_parts : FnScope Nlaw_parts ["_law_one", "_law_other"] (defScope slaw_parts) := ⟨rfl, rfl, rfl, by decide +kernel, rfl, by decide +kernel, by decide +kernel⟩
noncomputable def flaw_parts1b : M Fl :=
    (dIfS (dAnd (dCmpT (gEq false) (okD (dOp gMod (dVar 0) (dVar 2))) (dC (.int 0))) (dCmpT (gEq false) (okD (dOp gMod (dVar 1) (dVar 2))) (dC (.int 0)))) (dRet (dD (dVar 2))) dNx)
noncomputable def den_law_parts : M Fl :=
    (dSeq (dFor (M.bind (dD (okN (dLst (dCons (dD (dC (.int 2))) (dCons (dD (dC (.int 3))) (dCons (dD (dC (.int 5))) (dCons (dD (dC (.int 7))) (dCons (dD (dC (.int 11))) (dCons (dD (dC (.int 13))) (dCons (dD (dC (.int 17))) (dCons (dD (dC (.int 19))) (dCons (dD (dC (.int 23))) (dCons (dD (dC (.int 29))) (dCons (dD (dC (.int 31))) dNil)))))))))))))) seqX) (dName 2) flaw_parts1b)
    (dRet (dD (dC (.int 1)))))
theorem raw_law_parts (T : Tx K mg) : Okf P w K mg base 1 "_law_parts" ["_law_one", "_law_other"] (runD 3 2 den_law_parts) := by
  have sc := sclaw_parts
  exact ok_has (N := Nlaw_parts) T.d_law_parts sc rfl (by decide) fun f cdv A outer s H E hr => ⟨_, ((bd_cons (sd_for (passes_of rfl) rfl (id_any (ED.d (EN.e (en_lst (ad_cons (ED.d ed_int) (ad_cons (ED.d ed_int) (ad_cons (ED.d ed_int) (ad_cons (ED.d ed_int) (ad_cons (ED.d ed_int) (ad_cons (ED.d ed_int) (ad_cons (ED.d ed_int) (ad_cons (ED.d ed_int) (ad_cons (ED.d ed_int) (ad_cons (ED.d ed_int) (ad_cons (ED.d ed_int) ad_nil))))))))))))))) (gd_name (i := 2) sc.nd rfl (by first | exact Or.inl rfl | exact Or.inr rfl)) (bd_one (sd_if (td_w (wd_and (td_cmp (cEq hr.units) (DD.e (dd_mod (ed_var 0) (ed_var 2))) ed_int (nomark _)) (wd_and1 (td_cmp (cEq hr.units) (DD.e (dd_mod (ed_var 1) (ed_var 2))) ed_int (nomark _))))) (bd_one (sd_ret (ED.d (ed_var 2)))) bd_nil)))
    (bd_one (sd_ret (ED.d ed_int)))) : BD _ _ _ _ den_law_parts)⟩

def g_law_parts : G := fun ds S => match ds with
  | [.v (.int a), .v (.int b)] => if gcdZ a b = 1 then .ok (.v (.int 1)) S else .no
  | _ => .no
theorem fmod_dvd {a m : Int} (h : a.fmod m = 0) : m ∣ a := Int.dvd_of_fmod_eq_zero h
theorem eq_law_parts : ∀ ds S, g_law_parts ds S ≠ .no → runD 3 2 den_law_parts ds S = g_law_parts ds S := fun ds S h => by
  unfold g_law_parts at h ⊢
  split at h
  · next a b =>
    split at h
    · next hk =>
      rw [if_pos hk]
      have step : ∀ (j : Nat) (d : D) (c : Stt), ([2, 3, 5, 7, 11, 13, 17, 19, 23, 29, 31].map I)[j]? = some d → (∃ x, c = ⟨[.d (.v (.int a)), .d (.v (.int b)), x], S⟩) → ∃ c1, dName 2 d c = .ok () c1 ∧ ∃ f c2, flaw_parts1b c1 = .ok f c2 ∧ (f = .nx ∨ f = .ct) ∧ (∃ x, c2 = ⟨[.d (.v (.int a)), .d (.v (.int b)), x], S⟩) := by
        rintro j d c q ⟨x, rfl⟩
        rw [List.getElem?_map] at q
        obtain ⟨z, hz, rfl⟩ := Option.map_eq_some_iff.mp q
        have h2 : 2 ≤ z := by
          have := List.mem_of_getElem? hz
          simp at this
          omega
        refine ⟨_, rfl, .nx, ⟨[.d (.v (.int a)), .d (.v (.int b)), .d (I z)], S⟩, ?_, .inl rfl, ⟨_, rfl⟩⟩
        have h0 : z ≠ 0 := by omega
        by_cases q1 : a.fmod z = 0
        · have q2 : ¬b.fmod z = 0 := fun q2 => by
            have h3 := Int.dvd_coe_gcd (fmod_dvd q1) (fmod_dvd q2)
            have h4 : z ∣ 1 := by
              have e : ((Int.gcd a b : Nat) : Int) = 1 := hk
              rw [e] at h3
              exact h3
            have := Int.le_of_dvd (by decide) h4
            omega
          simp only [flaw_parts1b, runD, dD, dNil, dCons, dAnd, dOr, dNotT, dAndV, dOrV, dNotV, dIf, dTru, dCmpT, dSeq, dRet, dSet, dSetN, dIfS, dNx, dDrop, dOp, dNeg, dTup, dLst, dC, dK, dVar, okD, okN, frz, dCall, ofF, dAug, dPar, dApp, dChain, dListOf, dSlL, dRev,
  M.bind, M.pure, M.no, M.ne, dName, dUnit, dConsG, dTupG, gOr, gI, gS, gAdd, gSubI, gMul, gDiv, gMod, gPow, gIx, gLen, gAbs, gInt1, gSum, gAll, gAny, gMaxL, gMinL, gTupOf, g2I, gDm, gPart, gTru, gBool, gBoolO, gEq_pair, gEq_ints, gEq_sl1, gEq_sl2, opL, gEq_int, gEq_str, gEq_bl, gEq_non, gNone, gIn, gSign, gCat, gRep, gIsi,
  iLt, iLe, iGt, iGe, isNon, truD, tagD, seqD, lstD, rdlD, mutD, putL, tupD, vsD, rng1X, rng2X, enuX, zipX, seqX,
  Option.bind, Option.map, Option.bind_some, Option.map_some,
  List.map_cons, List.map_nil, List.length_cons, List.length_nil, List.nil_append, List.cons_append, List.replicate, List.getElem?_cons_zero, List.getElem?_cons_succ, List.set_cons_zero, List.set_cons_succ, List.append_nil,
  if_true, if_false, ite_true, ite_false, Nat.reduceAdd, Int.reduceToNat, Int.reducePow, Nat.reducePow, Int.reduceMul, Int.reduceAdd, Int.reduceSub, Int.reduceLT, Int.reduceLE, Nat.reduceMul, Int.cast_ofNat_Int, Nat.reduceSub, Nat.reduceLT, Nat.reduceLeDiff, ne_eq, reduceCtorEq, not_false_eq_true, not_true_eq_false, Int.reduceEq, Int.reduceNeg, Bool.false_eq_true, Bool.not_true, Bool.not_false, decide_true, decide_false, true_and, and_true, false_and, and_false, or_true, true_or, or_false, false_or, id_eq, Bool.true_eq_false, decide_eq_true_eq, Bool.not_eq_true', decide_eq_false_iff_not, Bool.not_not, blsD, List.all_cons, List.all_nil, List.any_cons, List.any_nil, Bool.and_self, Bool.and_true, Bool.or_false, dFor, dLc, itL, wipeD, backD, isi_NoneType_bool, isi_NoneType_int, isi_NoneType_str, isi_NoneType_tuple, isi_NoneType_list, isi_NoneType_dict, isi_bool_bool, isi_bool_int, isi_bool_str, isi_bool_tuple, isi_bool_list, isi_bool_dict, isi_int_bool, isi_int_int, isi_int_str, isi_int_tuple, isi_int_list, isi_int_dict, isi_str_bool, isi_str_int, isi_str_str, isi_str_tuple, isi_str_list, isi_str_dict, isi_tuple_bool, isi_tuple_int, isi_tuple_str, isi_tuple_tuple, isi_tuple_list, isi_tuple_dict, isi_list_bool, isi_list_int, isi_list_str, isi_list_tuple, isi_list_list, isi_list_dict, isi_dict_bool, isi_dict_int, isi_dict_str, isi_dict_tuple, isi_dict_list, isi_dict_dict, h0, q1, q2]
        · simp only [flaw_parts1b, runD, dD, dNil, dCons, dAnd, dOr, dNotT, dAndV, dOrV, dNotV, dIf, dTru, dCmpT, dSeq, dRet, dSet, dSetN, dIfS, dNx, dDrop, dOp, dNeg, dTup, dLst, dC, dK, dVar, okD, okN, frz, dCall, ofF, dAug, dPar, dApp, dChain, dListOf, dSlL, dRev,
  M.bind, M.pure, M.no, M.ne, dName, dUnit, dConsG, dTupG, gOr, gI, gS, gAdd, gSubI, gMul, gDiv, gMod, gPow, gIx, gLen, gAbs, gInt1, gSum, gAll, gAny, gMaxL, gMinL, gTupOf, g2I, gDm, gPart, gTru, gBool, gBoolO, gEq_pair, gEq_ints, gEq_sl1, gEq_sl2, opL, gEq_int, gEq_str, gEq_bl, gEq_non, gNone, gIn, gSign, gCat, gRep, gIsi,
  iLt, iLe, iGt, iGe, isNon, truD, tagD, seqD, lstD, rdlD, mutD, putL, tupD, vsD, rng1X, rng2X, enuX, zipX, seqX,
  Option.bind, Option.map, Option.bind_some, Option.map_some,
  List.map_cons, List.map_nil, List.length_cons, List.length_nil, List.nil_append, List.cons_append, List.replicate, List.getElem?_cons_zero, List.getElem?_cons_succ, List.set_cons_zero, List.set_cons_succ, List.append_nil,
  if_true, if_false, ite_true, ite_false, Nat.reduceAdd, Int.reduceToNat, Int.reducePow, Nat.reducePow, Int.reduceMul, Int.reduceAdd, Int.reduceSub, Int.reduceLT, Int.reduceLE, Nat.reduceMul, Int.cast_ofNat_Int, Nat.reduceSub, Nat.reduceLT, Nat.reduceLeDiff, ne_eq, reduceCtorEq, not_false_eq_true, not_true_eq_false, Int.reduceEq, Int.reduceNeg, Bool.false_eq_true, Bool.not_true, Bool.not_false, decide_true, decide_false, true_and, and_true, false_and, and_false, or_true, true_or, or_false, false_or, id_eq, Bool.true_eq_false, decide_eq_true_eq, Bool.not_eq_true', decide_eq_false_iff_not, Bool.not_not, blsD, List.all_cons, List.all_nil, List.any_cons, List.any_nil, Bool.and_self, Bool.and_true, Bool.or_false, dFor, dLc, itL, wipeD, backD, isi_NoneType_bool, isi_NoneType_int, isi_NoneType_str, isi_NoneType_tuple, isi_NoneType_list, isi_NoneType_dict, isi_bool_bool, isi_bool_int, isi_bool_str, isi_bool_tuple, isi_bool_list, isi_bool_dict, isi_int_bool, isi_int_int, isi_int_str, isi_int_tuple, isi_int_list, isi_int_dict, isi_str_bool, isi_str_int, isi_str_str, isi_str_tuple, isi_str_list, isi_str_dict, isi_tuple_bool, isi_tuple_int, isi_tuple_str, isi_tuple_tuple, isi_tuple_list, isi_tuple_dict, isi_list_bool, isi_list_int, isi_list_str, isi_list_tuple, isi_list_list, isi_list_dict, isi_dict_bool, isi_dict_int, isi_dict_str, isi_dict_tuple, isi_dict_list, isi_dict_dict, h0, q1]
      obtain ⟨c', e, x, rfl⟩ := itF_inv (dg := dName 2) (db := flaw_parts1b) (Inv := fun _ c => ∃ x, c = ⟨[.d (.v (.int a)), .d (.v (.int b)), x], S⟩) ([2, 3, 5, 7, 11, 13, 17, 19, 23, 29, 31].map I) 0 ⟨[.d (.v (.int a)), .d (.v (.int b)), .no], S⟩ ⟨_, rfl⟩ (fun j d c q hc => step j d c q hc)
      simp only [List.map_cons, List.map_nil] at e
      simp only [den_law_parts, runD, dD, dNil, dCons, dAnd, dOr, dNotT, dAndV, dOrV, dNotV, dIf, dTru, dCmpT, dSeq, dRet, dSet, dSetN, dIfS, dNx, dDrop, dOp, dNeg, dTup, dLst, dC, dK, dVar, okD, okN, frz, dCall, ofF, dAug, dPar, dApp, dChain, dListOf, dSlL, dRev,
  M.bind, M.pure, M.no, M.ne, dName, dUnit, dConsG, dTupG, gOr, gI, gS, gAdd, gSubI, gMul, gDiv, gMod, gPow, gIx, gLen, gAbs, gInt1, gSum, gAll, gAny, gMaxL, gMinL, gTupOf, g2I, gDm, gPart, gTru, gBool, gBoolO, gEq_pair, gEq_ints, gEq_sl1, gEq_sl2, opL, gEq_int, gEq_str, gEq_bl, gEq_non, gNone, gIn, gSign, gCat, gRep, gIsi,
  iLt, iLe, iGt, iGe, isNon, truD, tagD, seqD, lstD, rdlD, mutD, putL, tupD, vsD, rng1X, rng2X, enuX, zipX, seqX,
  Option.bind, Option.map, Option.bind_some, Option.map_some,
  List.map_cons, List.map_nil, List.length_cons, List.length_nil, List.nil_append, List.cons_append, List.replicate, List.getElem?_cons_zero, List.getElem?_cons_succ, List.set_cons_zero, List.set_cons_succ, List.append_nil,
  if_true, if_false, ite_true, ite_false, Nat.reduceAdd, Int.reduceToNat, Int.reducePow, Nat.reducePow, Int.reduceMul, Int.reduceAdd, Int.reduceSub, Int.reduceLT, Int.reduceLE, Nat.reduceMul, Int.cast_ofNat_Int, Nat.reduceSub, Nat.reduceLT, Nat.reduceLeDiff, ne_eq, reduceCtorEq, not_false_eq_true, not_true_eq_false, Int.reduceEq, Int.reduceNeg, Bool.false_eq_true, Bool.not_true, Bool.not_false, decide_true, decide_false, true_and, and_true, false_and, and_false, or_true, true_or, or_false, false_or, id_eq, Bool.true_eq_false, decide_eq_true_eq, Bool.not_eq_true', decide_eq_false_iff_not, Bool.not_not, blsD, List.all_cons, List.all_nil, List.any_cons, List.any_nil, Bool.and_self, Bool.and_true, Bool.or_false, dFor, dLc, itL, wipeD, backD, isi_NoneType_bool, isi_NoneType_int, isi_NoneType_str, isi_NoneType_tuple, isi_NoneType_list, isi_NoneType_dict, isi_bool_bool, isi_bool_int, isi_bool_str, isi_bool_tuple, isi_bool_list, isi_bool_dict, isi_int_bool, isi_int_int, isi_int_str, isi_int_tuple, isi_int_list, isi_int_dict, isi_str_bool, isi_str_int, isi_str_str, isi_str_tuple, isi_str_list, isi_str_dict, isi_tuple_bool, isi_tuple_int, isi_tuple_str, isi_tuple_tuple, isi_tuple_list, isi_tuple_dict, isi_list_bool, isi_list_int, isi_list_str, isi_list_tuple, isi_list_list, isi_list_dict, isi_dict_bool, isi_dict_int, isi_dict_str, isi_dict_tuple, isi_dict_list, isi_dict_dict, e]
    · exact absurd rfl h
  · exact absurd rfl h
theorem ok_law_parts (T : Tx K mg) : Okf P w K mg base 1 "_law_parts" ["_law_one", "_law_other"] g_law_parts := (raw_law_parts T ).by eq_law_parts
abbrev slaw_common : Stmt := top 10
abbrev Nlaw_common : List Str := ["_law_one", "_law_other"]
theorem sclaw_common : FnScope Nlaw_common ["_law_one", "_law_other"] (defScope slaw_common) := ⟨rfl, rfl, rfl, by decide +kernel, rfl, by decide +kernel, by decide +kernel⟩
noncomputable def wlaw_common1c : M Bool :=
    (dCmpT (gI iGt) (dVar 1) (dC (.int 0)))
noncomputable def wlaw_common1b : M Fl :=
    (dPar 0 1 (dCons (dD (dVar 1)) (dCons (dOp gMod (dVar 0) (dVar 1)) dNil)))
noncomputable def den_law_common : M Fl :=
    (dSeq (dSet 0 (M.bind (dVar 0) gAbs))
    (dSeq (dSet 1 (M.bind (dVar 1) gAbs))
    (dSeq (dWhile wlaw_common1c wlaw_common1b)
    (dRet (dD (dVar 0))))))
theorem raw_law_common (T : Tx K mg) : Okf P w K mg base 1 "_law_common" ["_law_one", "_law_other"] (runD 2 2 den_law_common) := by
  have sc := sclaw_common
  exact ok_has (N := Nlaw_common) T.d_law_common sc rfl (by decide) fun f cdv A outer s H E hr => ⟨_, ((bd_cons (sd_set (i := 0) sc.nd rfl (by first | exact Or.inl rfl | exact Or.inr rfl) (dd_b1 bAbs (by rfl) T.n_abs (by decide +kernel) (ed_var 0)))
    (bd_cons (sd_set (i := 1) sc.nd rfl (by first | exact Or.inl rfl | exact Or.inr rfl) (dd_b1 bAbs (by rfl) T.n_abs (by decide +kernel) (ed_var 1)))
    (bd_cons (sd_while (passes_of rfl) (td_cmp cGt (ed_var 1) ed_int (nomark _)) (bd_one (sd_par (i := 0) (j := 1) rfl sc.nd rfl rfl (by decide) rfl rfl (ad_cons (ED.d (ed_var 1)) (ad_cons (dd_mod (ed_var 0) (ed_var 1)) ad_nil)) (by rfl))))
    (bd_one (sd_ret (ED.d (ed_var 0))))))) : BD _ _ _ _ den_law_common)⟩

def g_law_common : G := fun ds S => match ds with
  | [.v (.int a), .v (.int b)] => if b.natAbs < 2 ^ 250 then .ok (.v (.int (gcdZ a b))) S else .no
  | _ => .no
theorem common_loop (S : List Cell) : ∀ (n : Nat) (a b : Int), b.toNat = n → 0 ≤ a → 0 ≤ b → 
    dWhile wlaw_common1c wlaw_common1b ⟨[.d (.v (.int a)), .d (.v (.int b))], S⟩ = .ok .nx ⟨[.d (.v (.int (gcdZ a b))), .d (.v (.int 0))], S⟩ := by
  intro n
  induction n using Nat.strongRecOn with
  | _ n ih =>
    intro a b hn ha hb
    rw [dWhile_eq]
    by_cases h0 : b = 0
    · subst h0
      rw [gcdZ_zero ha]
      simp only [wlaw_common1c, runD, dD, dNil, dCons, dAnd, dOr, dNotT, dAndV, dOrV, dNotV, dIf, dTru, dCmpT, dSeq, dRet, dSet, dSetN, dIfS, dNx, dDrop, dOp, dNeg, dTup, dLst, dC, dK, dVar, okD, okN, frz, dCall, ofF, dAug, dPar, dApp, dChain, dListOf, dSlL, dRev,
  M.bind, M.pure, M.no, M.ne, dName, dUnit, dConsG, dTupG, gOr, gI, gS, gAdd, gSubI, gMul, gDiv, gMod, gPow, gIx, gLen, gAbs, gInt1, gSum, gAll, gAny, gMaxL, gMinL, gTupOf, g2I, gDm, gPart, gTru, gBool, gBoolO, gEq_pair, gEq_ints, gEq_sl1, gEq_sl2, opL, gEq_int, gEq_str, gEq_bl, gEq_non, gNone, gIn, gSign, gCat, gRep, gIsi,
  iLt, iLe, iGt, iGe, isNon, truD, tagD, seqD, lstD, rdlD, mutD, putL, tupD, vsD, rng1X, rng2X, enuX, zipX, seqX,
  Option.bind, Option.map, Option.bind_some, Option.map_some,
  List.map_cons, List.map_nil, List.length_cons, List.length_nil, List.nil_append, List.cons_append, List.replicate, List.getElem?_cons_zero, List.getElem?_cons_succ, List.set_cons_zero, List.set_cons_succ, List.append_nil,
  if_true, if_false, ite_true, ite_false, Nat.reduceAdd, Int.reduceToNat, Int.reducePow, Nat.reducePow, Int.reduceMul, Int.reduceAdd, Int.reduceSub, Int.reduceLT, Int.reduceLE, Nat.reduceMul, Int.cast_ofNat_Int, Nat.reduceSub, Nat.reduceLT, Nat.reduceLeDiff, ne_eq, reduceCtorEq, not_false_eq_true, not_true_eq_false, Int.reduceEq, Int.reduceNeg, Bool.false_eq_true, Bool.not_true, Bool.not_false, decide_true, decide_false, true_and, and_true, false_and, and_false, or_true, true_or, or_false, false_or, id_eq, Bool.true_eq_false, decide_eq_true_eq, Bool.not_eq_true', decide_eq_false_iff_not, Bool.not_not, blsD, List.all_cons, List.all_nil, List.any_cons, List.any_nil, Bool.and_self, Bool.and_true, Bool.or_false, dFor, dLc, itL, wipeD, backD, isi_NoneType_bool, isi_NoneType_int, isi_NoneType_str, isi_NoneType_tuple, isi_NoneType_list, isi_NoneType_dict, isi_bool_bool, isi_bool_int, isi_bool_str, isi_bool_tuple, isi_bool_list, isi_bool_dict, isi_int_bool, isi_int_int, isi_int_str, isi_int_tuple, isi_int_list, isi_int_dict, isi_str_bool, isi_str_int, isi_str_str, isi_str_tuple, isi_str_list, isi_str_dict, isi_tuple_bool, isi_tuple_int, isi_tuple_str, isi_tuple_tuple, isi_tuple_list, isi_tuple_dict, isi_list_bool, isi_list_int, isi_list_str, isi_list_tuple, isi_list_list, isi_list_dict, isi_dict_bool, isi_dict_int, isi_dict_str, isi_dict_tuple, isi_dict_list, isi_dict_dict, Int.lt_irrefl]
    · have hp : 0 < b := by omega
      have hm : 0 ≤ a % b := Int.emod_nonneg a h0
      have hl : a % b < b := Int.emod_lt_of_pos a hp
      have e := ih (a % b).toNat (by omega) b (a % b) rfl hb hm
      rw [gcdZ_step ha hp] at e
      have em : a.fmod b = a % b := Int.fmod_eq_emod_of_nonneg a hb
      simp only [wlaw_common1c, wlaw_common1b, runD, dD, dNil, dCons, dAnd, dOr, dNotT, dAndV, dOrV, dNotV, dIf, dTru, dCmpT, dSeq, dRet, dSet, dSetN, dIfS, dNx, dDrop, dOp, dNeg, dTup, dLst, dC, dK, dVar, okD, okN, frz, dCall, ofF, dAug, dPar, dApp, dChain, dListOf, dSlL, dRev,
  M.bind, M.pure, M.no, M.ne, dName, dUnit, dConsG, dTupG, gOr, gI, gS, gAdd, gSubI, gMul, gDiv, gMod, gPow, gIx, gLen, gAbs, gInt1, gSum, gAll, gAny, gMaxL, gMinL, gTupOf, g2I, gDm, gPart, gTru, gBool, gBoolO, gEq_pair, gEq_ints, gEq_sl1, gEq_sl2, opL, gEq_int, gEq_str, gEq_bl, gEq_non, gNone, gIn, gSign, gCat, gRep, gIsi,
  iLt, iLe, iGt, iGe, isNon, truD, tagD, seqD, lstD, rdlD, mutD, putL, tupD, vsD, rng1X, rng2X, enuX, zipX, seqX,
  Option.bind, Option.map, Option.bind_some, Option.map_some,
  List.map_cons, List.map_nil, List.length_cons, List.length_nil, List.nil_append, List.cons_append, List.replicate, List.getElem?_cons_zero, List.getElem?_cons_succ, List.set_cons_zero, List.set_cons_succ, List.append_nil,
  if_true, if_false, ite_true, ite_false, Nat.reduceAdd, Int.reduceToNat, Int.reducePow, Nat.reducePow, Int.reduceMul, Int.reduceAdd, Int.reduceSub, Int.reduceLT, Int.reduceLE, Nat.reduceMul, Int.cast_ofNat_Int, Nat.reduceSub, Nat.reduceLT, Nat.reduceLeDiff, ne_eq, reduceCtorEq, not_false_eq_true, not_true_eq_false, Int.reduceEq, Int.reduceNeg, Bool.false_eq_true, Bool.not_true, Bool.not_false, decide_true, decide_false, true_and, and_true, false_and, and_false, or_true, true_or, or_false, false_or, id_eq, Bool.true_eq_false, decide_eq_true_eq, Bool.not_eq_true', decide_eq_false_iff_not, Bool.not_not, blsD, List.all_cons, List.all_nil, List.any_cons, List.any_nil, Bool.and_self, Bool.and_true, Bool.or_false, dFor, dLc, itL, wipeD, backD, isi_NoneType_bool, isi_NoneType_int, isi_NoneType_str, isi_NoneType_tuple, isi_NoneType_list, isi_NoneType_dict, isi_bool_bool, isi_bool_int, isi_bool_str, isi_bool_tuple, isi_bool_list, isi_bool_dict, isi_int_bool, isi_int_int, isi_int_str, isi_int_tuple, isi_int_list, isi_int_dict, isi_str_bool, isi_str_int, isi_str_str, isi_str_tuple, isi_str_list, isi_str_dict, isi_tuple_bool, isi_tuple_int, isi_tuple_str, isi_tuple_tuple, isi_tuple_list, isi_tuple_dict, isi_list_bool, isi_list_int, isi_list_str, isi_list_tuple, isi_list_list, isi_list_dict, isi_dict_bool, isi_dict_int, isi_dict_str, isi_dict_tuple, isi_dict_list, isi_dict_dict, hp, h0, em]
      exact e
theorem eq_law_common : ∀ ds S, g_law_common ds S ≠ .no → runD 2 2 den_law_common ds S = g_law_common ds S := fun ds S h => by
  unfold g_law_common at h ⊢
  split at h
  · next a b =>
    split at h
    · next hk =>
      have e := common_loop S _ (absZ a) (absZ b) rfl (absZ_nn a) (absZ_nn b)
      rw [if_pos hk]
      rw [gcdZ_abs] at e
      simp only [den_law_common, runD, dD, dNil, dCons, dAnd, dOr, dNotT, dAndV, dOrV, dNotV, dIf, dTru, dCmpT, dSeq, dRet, dSet, dSetN, dIfS, dNx, dDrop, dOp, dNeg, dTup, dLst, dC, dK, dVar, okD, okN, frz, dCall, ofF, dAug, dPar, dApp, dChain, dListOf, dSlL, dRev,
  M.bind, M.pure, M.no, M.ne, dName, dUnit, dConsG, dTupG, gOr, gI, gS, gAdd, gSubI, gMul, gDiv, gMod, gPow, gIx, gLen, gAbs, gInt1, gSum, gAll, gAny, gMaxL, gMinL, gTupOf, g2I, gDm, gPart, gTru, gBool, gBoolO, gEq_pair, gEq_ints, gEq_sl1, gEq_sl2, opL, gEq_int, gEq_str, gEq_bl, gEq_non, gNone, gIn, gSign, gCat, gRep, gIsi,
  iLt, iLe, iGt, iGe, isNon, truD, tagD, seqD, lstD, rdlD, mutD, putL, tupD, vsD, rng1X, rng2X, enuX, zipX, seqX,
  Option.bind, Option.map, Option.bind_some, Option.map_some,
  List.map_cons, List.map_nil, List.length_cons, List.length_nil, List.nil_append, List.cons_append, List.replicate, List.getElem?_cons_zero, List.getElem?_cons_succ, List.set_cons_zero, List.set_cons_succ, List.append_nil,
  if_true, if_false, ite_true, ite_false, Nat.reduceAdd, Int.reduceToNat, Int.reducePow, Nat.reducePow, Int.reduceMul, Int.reduceAdd, Int.reduceSub, Int.reduceLT, Int.reduceLE, Nat.reduceMul, Int.cast_ofNat_Int, Nat.reduceSub, Nat.reduceLT, Nat.reduceLeDiff, ne_eq, reduceCtorEq, not_false_eq_true, not_true_eq_false, Int.reduceEq, Int.reduceNeg, Bool.false_eq_true, Bool.not_true, Bool.not_false, decide_true, decide_false, true_and, and_true, false_and, and_false, or_true, true_or, or_false, false_or, id_eq, Bool.true_eq_false, decide_eq_true_eq, Bool.not_eq_true', decide_eq_false_iff_not, Bool.not_not, blsD, List.all_cons, List.all_nil, List.any_cons, List.any_nil, Bool.and_self, Bool.and_true, Bool.or_false, dFor, dLc, itL, wipeD, backD, isi_NoneType_bool, isi_NoneType_int, isi_NoneType_str, isi_NoneType_tuple, isi_NoneType_list, isi_NoneType_dict, isi_bool_bool, isi_bool_int, isi_bool_str, isi_bool_tuple, isi_bool_list, isi_bool_dict, isi_int_bool, isi_int_int, isi_int_str, isi_int_tuple, isi_int_list, isi_int_dict, isi_str_bool, isi_str_int, isi_str_str, isi_str_tuple, isi_str_list, isi_str_dict, isi_tuple_bool, isi_tuple_int, isi_tuple_str, isi_tuple_tuple, isi_tuple_list, isi_tuple_dict, isi_list_bool, isi_list_int, isi_list_str, isi_list_tuple, isi_list_list, isi_list_dict, isi_dict_bool, isi_dict_int, isi_dict_str, isi_dict_tuple, isi_dict_list, isi_dict_dict, e]
    · exact absurd rfl h
  · exact absurd rfl h
theorem ok_law_common (T : Tx K mg) : Okf P w K mg base 1 "_law_common" ["_law_one", "_law_other"] g_law_common := (raw_law_common T ).by eq_law_common
abbrev slaw_text : Stmt := top 11
abbrev Nlaw_text : List Str := ["_law_one"]
theorem sclaw_text : FnScope Nlaw_text ["_law_one"] (defScope slaw_text) := ⟨rfl, rfl, rfl, by decide +kernel, rfl, by decide +kernel, by decide +kernel⟩
noncomputable def den_law_text : M Fl :=
    (dSeq (dIfS (dCmpT (gEq false) (okD (dOp gIx (dVar 0) (dC (.int 1)))) (dC (.int 1))) (dRet (M.bind (okD (dOp gIx (dVar 0) (dC (.int 0)))) gStr1)) dNx)
    (dRet (dOp gAdd (okD (dOp gAdd (okD (dOp gAdd (dIf (dCmpT (gI iLt) (okD (dOp gIx (dVar 0) (dC (.int 0)))) (dC (.int 0))) (dC (.str "-")) (dC (.str ""))) (okD (M.bind (okD (M.bind (okD (dOp gIx (dVar 0) (dC (.int 0)))) gAbs)) gStr1)))) (dC (.str "/")))) (okD (M.bind (okD (dOp gIx (dVar 0) (dC (.int 1)))) gStr1)))))
theorem raw_law_text (T : Tx K mg) : Okf P w K mg base 1 "_law_text" ["_law_one"] (runD 1 1 den_law_text) := by
  have sc := sclaw_text
  exact ok_has (N := Nlaw_text) T.d_law_text sc rfl (by decide) fun f cdv A outer s H E hr => ⟨_, ((bd_cons (sd_if (td_cmp (cEq hr.units) (DD.e (dd_ix (ed_var 0) ed_int (fun _ _ => rfl))) ed_int (nomark _)) (bd_one (sd_ret (dd_t1 bStr (by rfl) T.n_str (by decide +kernel) (DD.e (dd_ix (ed_var 0) ed_int (fun _ _ => rfl)))))) bd_nil)
    (bd_one (sd_ret (dd_add (DD.e (dd_add (DD.e (dd_add (ed_if (td_cmp cLt (DD.e (dd_ix (ed_var 0) ed_int (fun _ _ => rfl))) ed_int (nomark _)) ed_str ed_str) (DD.e (dd_t1 bStr (by rfl) T.n_str (by decide +kernel) (DD.e (dd_b1 bAbs (by rfl) T.n_abs (by decide +kernel) (DD.e (dd_ix (ed_var 0) ed_int (fun _ _ => rfl))))))))) ed_str)) (DD.e (dd_t1 bStr (by rfl) T.n_str (by decide +kernel) (DD.e (dd_ix (ed_var 0) ed_int (fun _ _ => rfl))))))))) : BD _ _ _ _ den_law_text)⟩

def g_law_text : G := fun ds S => match ds with
  | [.tup [.v (.int a), .v (.int b)]] => if a.natAbs < 2 ^ 1000 ∧ b.natAbs < 2 ^ 1000 then .ok (.v (.str (txt (a, b)))) S else .no
  | _ => .no
theorem nil_app (x : Str) : ("" : Str) ++ x = x := by
  show (⟨_⟩ : Str) = x
  cases x
  simp
  rfl
theorem eq_law_text : ∀ ds S, g_law_text ds S ≠ .no → runD 1 1 den_law_text ds S = g_law_text ds S := fun ds S h => by
  unfold g_law_text at h ⊢
  split at h
  · next a b =>
    split at h
    · next hk =>
      rw [if_pos hk]
      have a0 : atI [D.v (V.int a), D.v (V.int b)] 0 = some (.v (.int a)) := rfl
      have a1 : atI [D.v (V.int a), D.v (V.int b)] 1 = some (.v (.int b)) := rfl
      have ha : (absZ a).natAbs < 2 ^ 1000 := by rw [absZ_natAbs]; exact hk.1
      have l1 := strZ_len1 ha
      have l2 := strZ_len1 hk.2
      have l3 : (("/" : Str)).length = 1 := rfl
      have l4 : (("-" : Str)).length = 1 := rfl
      have l5 : (("" : Str)).length = 0 := rfl
      unfold txt
      by_cases h1 : b = 1
      · subst h1
        simp only [den_law_text, runD, dD, dNil, dCons, dAnd, dOr, dNotT, dAndV, dOrV, dNotV, dIf, dTru, dCmpT, dSeq, dRet, dSet, dSetN, dIfS, dNx, dDrop, dOp, dNeg, dTup, dLst, dC, dK, dVar, okD, okN, frz, dCall, ofF, dAug, dPar, dApp, dChain, dListOf, dSlL, dRev,
  M.bind, M.pure, M.no, M.ne, dName, dUnit, dConsG, dTupG, gOr, gI, gS, gAdd, gSubI, gMul, gDiv, gMod, gPow, gIx, gLen, gAbs, gInt1, gSum, gAll, gAny, gMaxL, gMinL, gTupOf, g2I, gDm, gPart, gTru, gBool, gBoolO, gEq_pair, gEq_ints, gEq_sl1, gEq_sl2, opL, gEq_int, gEq_str, gEq_bl, gEq_non, gNone, gIn, gSign, gCat, gRep, gIsi,
  iLt, iLe, iGt, iGe, isNon, truD, tagD, seqD, lstD, rdlD, mutD, putL, tupD, vsD, rng1X, rng2X, enuX, zipX, seqX,
  Option.bind, Option.map, Option.bind_some, Option.map_some,
  List.map_cons, List.map_nil, List.length_cons, List.length_nil, List.nil_append, List.cons_append, List.replicate, List.getElem?_cons_zero, List.getElem?_cons_succ, List.set_cons_zero, List.set_cons_succ, List.append_nil,
  if_true, if_false, ite_true, ite_false, Nat.reduceAdd, Int.reduceToNat, Int.reducePow, Nat.reducePow, Int.reduceMul, Int.reduceAdd, Int.reduceSub, Int.reduceLT, Int.reduceLE, Nat.reduceMul, Int.cast_ofNat_Int, Nat.reduceSub, Nat.reduceLT, Nat.reduceLeDiff, ne_eq, reduceCtorEq, not_false_eq_true, not_true_eq_false, Int.reduceEq, Int.reduceNeg, Bool.false_eq_true, Bool.not_true, Bool.not_false, decide_true, decide_false, true_and, and_true, false_and, and_false, or_true, true_or, or_false, false_or, id_eq, Bool.true_eq_false, decide_eq_true_eq, Bool.not_eq_true', decide_eq_false_iff_not, Bool.not_not, blsD, List.all_cons, List.all_nil, List.any_cons, List.any_nil, Bool.and_self, Bool.and_true, Bool.or_false, dFor, dLc, itL, wipeD, backD, isi_NoneType_bool, isi_NoneType_int, isi_NoneType_str, isi_NoneType_tuple, isi_NoneType_list, isi_NoneType_dict, isi_bool_bool, isi_bool_int, isi_bool_str, isi_bool_tuple, isi_bool_list, isi_bool_dict, isi_int_bool, isi_int_int, isi_int_str, isi_int_tuple, isi_int_list, isi_int_dict, isi_str_bool, isi_str_int, isi_str_str, isi_str_tuple, isi_str_list, isi_str_dict, isi_tuple_bool, isi_tuple_int, isi_tuple_str, isi_tuple_tuple, isi_tuple_list, isi_tuple_dict, isi_list_bool, isi_list_int, isi_list_str, isi_list_tuple, isi_list_list, isi_list_dict, isi_dict_bool, isi_dict_int, isi_dict_str, isi_dict_tuple, isi_dict_list, isi_dict_dict, a0, a1, gStr_int hk.1]
      · by_cases hn : a < 0
        · have ea : absZ a = -a := if_pos hn
          rw [strZ_neg hn, ← ea]
          have c1 : (("-" : Str)).length + (strZ (absZ a)).length ≤ 1000000 := by omega
          have c2 : (("-" : Str) ++ strZ (absZ a)).length + (("/" : Str)).length ≤ 1000000 := by rw [str_app_len]; omega
          have c3 : (("-" : Str) ++ strZ (absZ a) ++ ("/" : Str)).length + (strZ b).length ≤ 1000000 := by rw [str_app_len, str_app_len]; omega
          simp only [den_law_text, runD, dD, dNil, dCons, dAnd, dOr, dNotT, dAndV, dOrV, dNotV, dIf, dTru, dCmpT, dSeq, dRet, dSet, dSetN, dIfS, dNx, dDrop, dOp, dNeg, dTup, dLst, dC, dK, dVar, okD, okN, frz, dCall, ofF, dAug, dPar, dApp, dChain, dListOf, dSlL, dRev,
  M.bind, M.pure, M.no, M.ne, dName, dUnit, dConsG, dTupG, gOr, gI, gS, gAdd, gSubI, gMul, gDiv, gMod, gPow, gIx, gLen, gAbs, gInt1, gSum, gAll, gAny, gMaxL, gMinL, gTupOf, g2I, gDm, gPart, gTru, gBool, gBoolO, gEq_pair, gEq_ints, gEq_sl1, gEq_sl2, opL, gEq_int, gEq_str, gEq_bl, gEq_non, gNone, gIn, gSign, gCat, gRep, gIsi,
  iLt, iLe, iGt, iGe, isNon, truD, tagD, seqD, lstD, rdlD, mutD, putL, tupD, vsD, rng1X, rng2X, enuX, zipX, seqX,
  Option.bind, Option.map, Option.bind_some, Option.map_some,
  List.map_cons, List.map_nil, List.length_cons, List.length_nil, List.nil_append, List.cons_append, List.replicate, List.getElem?_cons_zero, List.getElem?_cons_succ, List.set_cons_zero, List.set_cons_succ, List.append_nil,
  if_true, if_false, ite_true, ite_false, Nat.reduceAdd, Int.reduceToNat, Int.reducePow, Nat.reducePow, Int.reduceMul, Int.reduceAdd, Int.reduceSub, Int.reduceLT, Int.reduceLE, Nat.reduceMul, Int.cast_ofNat_Int, Nat.reduceSub, Nat.reduceLT, Nat.reduceLeDiff, ne_eq, reduceCtorEq, not_false_eq_true, not_true_eq_false, Int.reduceEq, Int.reduceNeg, Bool.false_eq_true, Bool.not_true, Bool.not_false, decide_true, decide_false, true_and, and_true, false_and, and_false, or_true, true_or, or_false, false_or, id_eq, Bool.true_eq_false, decide_eq_true_eq, Bool.not_eq_true', decide_eq_false_iff_not, Bool.not_not, blsD, List.all_cons, List.all_nil, List.any_cons, List.any_nil, Bool.and_self, Bool.and_true, Bool.or_false, dFor, dLc, itL, wipeD, backD, isi_NoneType_bool, isi_NoneType_int, isi_NoneType_str, isi_NoneType_tuple, isi_NoneType_list, isi_NoneType_dict, isi_bool_bool, isi_bool_int, isi_bool_str, isi_bool_tuple, isi_bool_list, isi_bool_dict, isi_int_bool, isi_int_int, isi_int_str, isi_int_tuple, isi_int_list, isi_int_dict, isi_str_bool, isi_str_int, isi_str_str, isi_str_tuple, isi_str_list, isi_str_dict, isi_tuple_bool, isi_tuple_int, isi_tuple_str, isi_tuple_tuple, isi_tuple_list, isi_tuple_dict, isi_list_bool, isi_list_int, isi_list_str, isi_list_tuple, isi_list_list, isi_list_dict, isi_dict_bool, isi_dict_int, isi_dict_str, isi_dict_tuple, isi_dict_list, isi_dict_dict, a0, a1, h1, hn, gStr_int ha, gStr_int hk.2, c1, c2, c3]
        · have ea : absZ a = a := if_neg hn
          rw [ea] at l1
          have c1 : (("" : Str)).length + (strZ a).length ≤ 1000000 := by omega
          have c2 : (strZ a).length + (("/" : Str)).length ≤ 1000000 := by omega
          have c3 : (strZ a ++ ("/" : Str)).length + (strZ b).length ≤ 1000000 := by rw [str_app_len]; omega
          simp only [den_law_text, runD, dD, dNil, dCons, dAnd, dOr, dNotT, dAndV, dOrV, dNotV, dIf, dTru, dCmpT, dSeq, dRet, dSet, dSetN, dIfS, dNx, dDrop, dOp, dNeg, dTup, dLst, dC, dK, dVar, okD, okN, frz, dCall, ofF, dAug, dPar, dApp, dChain, dListOf, dSlL, dRev,
  M.bind, M.pure, M.no, M.ne, dName, dUnit, dConsG, dTupG, gOr, gI, gS, gAdd, gSubI, gMul, gDiv, gMod, gPow, gIx, gLen, gAbs, gInt1, gSum, gAll, gAny, gMaxL, gMinL, gTupOf, g2I, gDm, gPart, gTru, gBool, gBoolO, gEq_pair, gEq_ints, gEq_sl1, gEq_sl2, opL, gEq_int, gEq_str, gEq_bl, gEq_non, gNone, gIn, gSign, gCat, gRep, gIsi,
  iLt, iLe, iGt, iGe, isNon, truD, tagD, seqD, lstD, rdlD, mutD, putL, tupD, vsD, rng1X, rng2X, enuX, zipX, seqX,
  Option.bind, Option.map, Option.bind_some, Option.map_some,
  List.map_cons, List.map_nil, List.length_cons, List.length_nil, List.nil_append, List.cons_append, List.replicate, List.getElem?_cons_zero, List.getElem?_cons_succ, List.set_cons_zero, List.set_cons_succ, List.append_nil,
  if_true, if_false, ite_true, ite_false, Nat.reduceAdd, Int.reduceToNat, Int.reducePow, Nat.reducePow, Int.reduceMul, Int.reduceAdd, Int.reduceSub, Int.reduceLT, Int.reduceLE, Nat.reduceMul, Int.cast_ofNat_Int, Nat.reduceSub, Nat.reduceLT, Nat.reduceLeDiff, ne_eq, reduceCtorEq, not_false_eq_true, not_true_eq_false, Int.reduceEq, Int.reduceNeg, Bool.false_eq_true, Bool.not_true, Bool.not_false, decide_true, decide_false, true_and, and_true, false_and, and_false, or_true, true_or, or_false, false_or, id_eq, Bool.true_eq_false, decide_eq_true_eq, Bool.not_eq_true', decide_eq_false_iff_not, Bool.not_not, blsD, List.all_cons, List.all_nil, List.any_cons, List.any_nil, Bool.and_self, Bool.and_true, Bool.or_false, dFor, dLc, itL, wipeD, backD, isi_NoneType_bool, isi_NoneType_int, isi_NoneType_str, isi_NoneType_tuple, isi_NoneType_list, isi_NoneType_dict, isi_bool_bool, isi_bool_int, isi_bool_str, isi_bool_tuple, isi_bool_list, isi_bool_dict, isi_int_bool, isi_int_int, isi_int_str, isi_int_tuple, isi_int_list, isi_int_dict, isi_str_bool, isi_str_int, isi_str_str, isi_str_tuple, isi_str_list, isi_str_dict, isi_tuple_bool, isi_tuple_int, isi_tuple_str, isi_tuple_tuple, isi_tuple_list, isi_tuple_dict, isi_list_bool, isi_list_int, isi_list_str, isi_list_tuple, isi_list_list, isi_list_dict, isi_dict_bool, isi_dict_int, isi_dict_str, isi_dict_tuple, isi_dict_list, isi_dict_dict, a0, a1, h1, hn, ea, gStr_int hk.1, gStr_int hk.2, c1, c2, c3, nil_app]
    · exact absurd rfl h
  · exact absurd rfl h
theorem ok_law_text (T : Tx K mg) : Okf P w K mg base 1 "_law_text" ["_law_one"] g_law_text := (raw_law_text T ).by eq_law_text
abbrev sfraction : Stmt := top 2
abbrev Nfraction : List Str := ["top", "bottom", "part"]
theorem scfraction : FnScope Nfraction ["top", "bottom"] (defScope sfraction) := ⟨rfl, rfl, rfl, by decide +kernel, rfl, by decide +kernel, by decide +kernel⟩
noncomputable def den_fraction : M Fl :=
    (dSeq (dSet 2 (dCall g_shared (dCons (M.bind (dVar 0) gAbs) (dCons (M.bind (dVar 1) gAbs) dNil))))
    (dSeq (dIfS (dCmpT (gI iLt) (dVar 1) (dC (.int 0))) (dSet 2 (dNeg (dVar 2))) dNx)
    (dRet (dTup (dCons (dOp gDiv (dVar 0) (dVar 2)) (dCons (dOp gDiv (dVar 1) (dVar 2)) dNil))))))
theorem raw_fraction (T : Tx K mg) (h_shared : Okf P w K mg base 1 "shared" ["one", "other"] g_shared) : Okf P w K mg base 2 "fraction" ["top", "bottom"] (runD 3 2 den_fraction) := by
  have sc := scfraction
  exact ok_has (N := Nfraction) T.d_fraction sc rfl (by decide) fun f cdv A outer s H E hr => ⟨_, ((bd_cons (sd_set (i := 2) sc.nd rfl (by first | exact Or.inl rfl | exact Or.inr rfl) (dd_fn h_shared (hr.mono (by decide)) (by rfl) (pol_of (takes_of rfl rfl rfl rfl)) (ad_cons (dd_b1 bAbs (by rfl) T.n_abs (by decide +kernel) (ed_var 0)) (ad_cons (dd_b1 bAbs (by rfl) T.n_abs (by decide +kernel) (ed_var 1)) ad_nil))))
    (bd_cons (sd_if (td_cmp cLt (ed_var 1) ed_int (nomark _)) (bd_one (sd_set (i := 2) sc.nd rfl (by first | exact Or.inl rfl | exact Or.inr rfl) (dd_neg (ed_var 2)))) bd_nil)
    (bd_one (sd_ret (dd_tup (ad_cons (dd_div (ed_var 0) (ed_var 2)) (ad_cons (dd_div (ed_var 1) (ed_var 2)) ad_nil))))))) : BD _ _ _ _ den_fraction)⟩

def frac (t b : Int) : Int × Int := let q := if b < 0 then -gcdZ t b else gcdZ t b; (t.fdiv q, b.fdiv q)
def pairD (p : Int × Int) : D := .tup [.v (.int p.1), .v (.int p.2)]
def g_fraction : G := fun ds S => match ds with
  | [.v (.int t), .v (.int b)] => if b ≠ 0 ∧ t.natAbs < 2 ^ 200 ∧ b.natAbs < 2 ^ 200 then .ok (pairD (frac t b)) S else .no
  | _ => .no
theorem eq_fraction : ∀ ds S, g_fraction ds S ≠ .no → runD 3 2 den_fraction ds S = g_fraction ds S := fun ds S h => by
  unfold g_fraction at h ⊢
  split at h
  · next t b =>
    split at h
    · next hk =>
      rw [if_pos hk]
      obtain ⟨h0, ht, hb⟩ := hk
      have e1 : g_shared [.v (.int (absZ t)), .v (.int (absZ b))] S = .ok (.v (.int (gcdZ t b))) S := by
        unfold g_shared
        dsimp only
        rw [if_pos ⟨absZ_nn t, absZ_nn b, by rw [absZ_natAbs]; exact Nat.lt_of_lt_of_le hb (Nat.pow_le_pow_right (by decide) (by decide))⟩, gcdZ_abs]
      have gp := gcdZ_pos (t := t) h0
      have gl := gcdZ_le (t := t) h0
      have hq := Nat.lt_of_le_of_lt gl hb
      have hd1 : divOk (gcdZ t b) := divOk_b (by omega) hq (by decide) (by decide)
      by_cases hn : b < 0
      · have hd2 : divOk (-gcdZ t b) := divOk_b (by omega) (by rw [Int.natAbs_neg]; exact hq) (by decide) (by decide)
        have ef : frac t b = (t.fdiv (-gcdZ t b), b.fdiv (-gcdZ t b)) := by
          unfold frac
          rw [if_pos hn]
        rw [ef]
        simp only [den_fraction, runD, dD, dNil, dCons, dAnd, dOr, dNotT, dAndV, dOrV, dNotV, dIf, dTru, dCmpT, dSeq, dRet, dSet, dSetN, dIfS, dNx, dDrop, dOp, dNeg, dTup, dLst, dC, dK, dVar, okD, okN, frz, dCall, ofF, dAug, dPar, dApp, dChain, dListOf, dSlL, dRev,
  M.bind, M.pure, M.no, M.ne, dName, dUnit, dConsG, dTupG, gOr, gI, gS, gAdd, gSubI, gMul, gDiv, gMod, gPow, gIx, gLen, gAbs, gInt1, gSum, gAll, gAny, gMaxL, gMinL, gTupOf, g2I, gDm, gPart, gTru, gBool, gBoolO, gEq_pair, gEq_ints, gEq_sl1, gEq_sl2, opL, gEq_int, gEq_str, gEq_bl, gEq_non, gNone, gIn, gSign, gCat, gRep, gIsi,
  iLt, iLe, iGt, iGe, isNon, truD, tagD, seqD, lstD, rdlD, mutD, putL, tupD, vsD, rng1X, rng2X, enuX, zipX, seqX,
  Option.bind, Option.map, Option.bind_some, Option.map_some,
  List.map_cons, List.map_nil, List.length_cons, List.length_nil, List.nil_append, List.cons_append, List.replicate, List.getElem?_cons_zero, List.getElem?_cons_succ, List.set_cons_zero, List.set_cons_succ, List.append_nil,
  if_true, if_false, ite_true, ite_false, Nat.reduceAdd, Int.reduceToNat, Int.reducePow, Nat.reducePow, Int.reduceMul, Int.reduceAdd, Int.reduceSub, Int.reduceLT, Int.reduceLE, Nat.reduceMul, Int.cast_ofNat_Int, Nat.reduceSub, Nat.reduceLT, Nat.reduceLeDiff, ne_eq, reduceCtorEq, not_false_eq_true, not_true_eq_false, Int.reduceEq, Int.reduceNeg, Bool.false_eq_true, Bool.not_true, Bool.not_false, decide_true, decide_false, true_and, and_true, false_and, and_false, or_true, true_or, or_false, false_or, id_eq, Bool.true_eq_false, decide_eq_true_eq, Bool.not_eq_true', decide_eq_false_iff_not, Bool.not_not, blsD, List.all_cons, List.all_nil, List.any_cons, List.any_nil, Bool.and_self, Bool.and_true, Bool.or_false, dFor, dLc, itL, wipeD, backD, isi_NoneType_bool, isi_NoneType_int, isi_NoneType_str, isi_NoneType_tuple, isi_NoneType_list, isi_NoneType_dict, isi_bool_bool, isi_bool_int, isi_bool_str, isi_bool_tuple, isi_bool_list, isi_bool_dict, isi_int_bool, isi_int_int, isi_int_str, isi_int_tuple, isi_int_list, isi_int_dict, isi_str_bool, isi_str_int, isi_str_str, isi_str_tuple, isi_str_list, isi_str_dict, isi_tuple_bool, isi_tuple_int, isi_tuple_str, isi_tuple_tuple, isi_tuple_list, isi_tuple_dict, isi_list_bool, isi_list_int, isi_list_str, isi_list_tuple, isi_list_list, isi_list_dict, isi_dict_bool, isi_dict_int, isi_dict_str, isi_dict_tuple, isi_dict_list, isi_dict_dict, e1, hn, hd2, pairD, Nat.le_refl]
      · have ef : frac t b = (t.fdiv (gcdZ t b), b.fdiv (gcdZ t b)) := by
          unfold frac
          rw [if_neg hn]
        rw [ef]
        simp only [den_fraction, runD, dD, dNil, dCons, dAnd, dOr, dNotT, dAndV, dOrV, dNotV, dIf, dTru, dCmpT, dSeq, dRet, dSet, dSetN, dIfS, dNx, dDrop, dOp, dNeg, dTup, dLst, dC, dK, dVar, okD, okN, frz, dCall, ofF, dAug, dPar, dApp, dChain, dListOf, dSlL, dRev,
  M.bind, M.pure, M.no, M.ne, dName, dUnit, dConsG, dTupG, gOr, gI, gS, gAdd, gSubI, gMul, gDiv, gMod, gPow, gIx, gLen, gAbs, gInt1, gSum, gAll, gAny, gMaxL, gMinL, gTupOf, g2I, gDm, gPart, gTru, gBool, gBoolO, gEq_pair, gEq_ints, gEq_sl1, gEq_sl2, opL, gEq_int, gEq_str, gEq_bl, gEq_non, gNone, gIn, gSign, gCat, gRep, gIsi,
  iLt, iLe, iGt, iGe, isNon, truD, tagD, seqD, lstD, rdlD, mutD, putL, tupD, vsD, rng1X, rng2X, enuX, zipX, seqX,
  Option.bind, Option.map, Option.bind_some, Option.map_some,
  List.map_cons, List.map_nil, List.length_cons, List.length_nil, List.nil_append, List.cons_append, List.replicate, List.getElem?_cons_zero, List.getElem?_cons_succ, List.set_cons_zero, List.set_cons_succ, List.append_nil,
  if_true, if_false, ite_true, ite_false, Nat.reduceAdd, Int.reduceToNat, Int.reducePow, Nat.reducePow, Int.reduceMul, Int.reduceAdd, Int.reduceSub, Int.reduceLT, Int.reduceLE, Nat.reduceMul, Int.cast_ofNat_Int, Nat.reduceSub, Nat.reduceLT, Nat.reduceLeDiff, ne_eq, reduceCtorEq, not_false_eq_true, not_true_eq_false, Int.reduceEq, Int.reduceNeg, Bool.false_eq_true, Bool.not_true, Bool.not_false, decide_true, decide_false, true_and, and_true, false_and, and_false, or_true, true_or, or_false, false_or, id_eq, Bool.true_eq_false, decide_eq_true_eq, Bool.not_eq_true', decide_eq_false_iff_not, Bool.not_not, blsD, List.all_cons, List.all_nil, List.any_cons, List.any_nil, Bool.and_self, Bool.and_true, Bool.or_false, dFor, dLc, itL, wipeD, backD, isi_NoneType_bool, isi_NoneType_int, isi_NoneType_str, isi_NoneType_tuple, isi_NoneType_list, isi_NoneType_dict, isi_bool_bool, isi_bool_int, isi_bool_str, isi_bool_tuple, isi_bool_list, isi_bool_dict, isi_int_bool, isi_int_int, isi_int_str, isi_int_tuple, isi_int_list, isi_int_dict, isi_str_bool, isi_str_int, isi_str_str, isi_str_tuple, isi_str_list, isi_str_dict, isi_tuple_bool, isi_tuple_int, isi_tuple_str, isi_tuple_tuple, isi_tuple_list, isi_tuple_dict, isi_list_bool, isi_list_int, isi_list_str, isi_list_tuple, isi_list_list, isi_list_dict, isi_dict_bool, isi_dict_int, isi_dict_str, isi_dict_tuple, isi_dict_list, isi_dict_dict, e1, hn, hd1, pairD, Nat.le_refl]
    · exact absurd rfl h
  · exact absurd rfl h

theorem gcdZ_dvd_l (t b : Int) : gcdZ t b ∣ t := Int.gcd_dvd_left t b
theorem gcdZ_dvd_r (t b : Int) : gcdZ t b ∣ b := Int.gcd_dvd_right t b
structure Red (t b : Int) (p : Int × Int) : Prop where
  pos : 1 ≤ p.2
  eq : p.1 * b = t * p.2
  one : gcdZ p.1 p.2 = 1
  le1 : p.1.natAbs ≤ t.natAbs
  le2 : p.2.natAbs ≤ b.natAbs
theorem red_of {t b q : Int} (hb : b ≠ 0) (hq : q = if b < 0 then -gcdZ t b else gcdZ t b) : Red t b (t.fdiv q, b.fdiv q) := by
  have gp := gcdZ_pos (t := t) hb
  have hq0 : q ≠ 0 := by
    rw [hq]
    split <;> omega
  have hqa : q.natAbs = Int.gcd t b := by
    rw [hq]
    unfold gcdZ
    split <;> simp
  have h1 : q ∣ t := by
    rw [hq]
    split
    · exact Int.neg_dvd.mpr (gcdZ_dvd_l t b)
    · exact gcdZ_dvd_l t b
  have h2 : q ∣ b := by
    rw [hq]
    split
    · exact Int.neg_dvd.mpr (gcdZ_dvd_r t b)
    · exact gcdZ_dvd_r t b
  obtain ⟨x, hx⟩ := h1
  obtain ⟨y, hy⟩ := h2
  have e1 : t.fdiv q = x := by
    rw [hx, Int.mul_fdiv_cancel_left _ hq0]
  have e2 : b.fdiv q = y := by
    rw [hy, Int.mul_fdiv_cancel_left _ hq0]
  rw [e1, e2]
  have hg : Int.gcd x y = 1 := by
    have h3 : Int.gcd (q * x) (q * y) = q.natAbs * Int.gcd x y := Int.gcd_mul_left q x y
    rw [← hx, ← hy, hqa] at h3
    have h4 : 0 < Int.gcd t b := by
      unfold gcdZ at gp
      omega
    have h5 : Int.gcd t b * 1 = Int.gcd t b * Int.gcd x y := by omega
    exact (Nat.eq_of_mul_eq_mul_left h4 h5).symm
  have hna : 1 ≤ q.natAbs := by omega
  refine ⟨?_, ?_, ?_, ?_, ?_⟩
  · show 1 ≤ y
    by_cases hn : b < 0
    · rw [if_pos hn] at hq
      have hqn : q < 0 := by omega
      have : 0 < y := by
        rcases Int.lt_trichotomy y 0 with h | h | h
        · exfalso
          have := Int.mul_pos_of_neg_of_neg hqn h
          omega
        · exfalso
          rw [h, Int.mul_zero] at hy
          omega
        · exact h
      omega
    · rw [if_neg hn] at hq
      have hqn : 0 < q := by omega
      have : 0 < y := by
        rcases Int.lt_trichotomy y 0 with h | h | h
        · exfalso
          have := Int.mul_neg_of_pos_of_neg hqn h
          omega
        · exfalso
          rw [h, Int.mul_zero] at hy
          omega
        · exact h
      omega
  · show x * b = t * y
    rw [hx, hy]
    rw [Int.mul_left_comm, Int.mul_assoc]
  · show gcdZ x y = 1
    unfold gcdZ
    rw [hg]
    rfl
  · show x.natAbs ≤ t.natAbs
    rw [hx, Int.natAbs_mul]
    exact Nat.le_mul_of_pos_left _ hna
  · show y.natAbs ≤ b.natAbs
    rw [hy, Int.natAbs_mul]
    exact Nat.le_mul_of_pos_left _ hna
theorem red_frac {t b : Int} (hb : b ≠ 0) : Red t b (frac t b) := red_of hb rfl
theorem dvd_cop {k n m : Int} (h : k ∣ n * m) (g : Int.gcd k n = 1) : k ∣ m := by
  have := Int.dvd_gcd_mul_iff_dvd_mul.mpr h
  rw [g] at this
  exact (Int.one_mul m) ▸ this
theorem red_one {t b t2 b2 : Int} {p q : Int × Int} (hb : b ≠ 0) (hb2 : b2 ≠ 0) (h : t * b2 = t2 * b) (hp : Red t b p) (hq : Red t2 b2 q) : p = q := by
  obtain ⟨p1, p2⟩ := p
  obtain ⟨q1, q2⟩ := q
  have a1 : 1 ≤ p2 := hp.pos
  have a2 : 1 ≤ q2 := hq.pos
  have e1 : p1 * b = t * p2 := hp.eq
  have e2 : q1 * b2 = t2 * q2 := hq.eq
  have g1 : Int.gcd p1 p2 = 1 := by
    have : ((Int.gcd p1 p2 : Nat) : Int) = 1 := hp.one
    omega
  have g2 : Int.gcd q1 q2 = 1 := by
    have : ((Int.gcd q1 q2 : Nat) : Int) = 1 := hq.one
    omega
  -- p1 * q2 = q1 * p2
  have key : p1 * q2 = q1 * p2 := by
    have h1 : (p1 * q2) * (b * b2) = (q1 * p2) * (b * b2) := by
      calc (p1 * q2) * (b * b2) = (p1 * b) * (q2 * b2) := by
            rw [Int.mul_assoc, Int.mul_assoc, Int.mul_left_comm q2 b b2]
        _ = (t * p2) * (q2 * b2) := by rw [e1]
        _ = (t * b2) * (p2 * q2) := by
            simp only [Int.mul_comm, Int.mul_left_comm, Int.mul_assoc]
        _ = (t2 * b) * (p2 * q2) := by rw [h]
        _ = (t2 * q2) * (p2 * b) := by
            simp only [Int.mul_comm, Int.mul_left_comm, Int.mul_assoc]
        _ = (q1 * b2) * (p2 * b) := by rw [e2]
        _ = (q1 * p2) * (b * b2) := by
            simp only [Int.mul_comm, Int.mul_left_comm, Int.mul_assoc]
    exact Int.eq_of_mul_eq_mul_right (Int.mul_ne_zero hb hb2) h1
  have d1 : p2 ∣ q2 := by
    have : p2 ∣ p1 * q2 := ⟨q1, by rw [key, Int.mul_comm]⟩
    exact dvd_cop this (by rw [Int.gcd_comm]; exact g1)
  have d2 : q2 ∣ p2 := by
    have : q2 ∣ q1 * p2 := ⟨p1, by rw [← key, Int.mul_comm]⟩
    exact dvd_cop this (by rw [Int.gcd_comm]; exact g2)
  have e3 : p2 = q2 := Int.dvd_antisymm (by omega) (by omega) d1 d2
  subst e3
  have e4 : p1 = q1 := Int.eq_of_mul_eq_mul_right (by omega) key
  subst e4
  rfl
theorem frac_eq {t b t2 b2 : Int} (hb : b ≠ 0) (hb2 : b2 ≠ 0) (h : t * b2 = t2 * b) : frac t b = frac t2 b2 := red_one hb hb2 h (red_frac hb) (red_frac hb2)
theorem gf (t b : Int) (S : List Cell) (h : b ≠ 0) (h1 : t.natAbs < 2 ^ 200) (h2 : b.natAbs < 2 ^ 200) : g_fraction [.v (.int t), .v (.int b)] S = .ok (pairD (frac t b)) S := by
  unfold g_fraction
  dsimp only
  rw [if_pos ⟨h, h1, h2⟩]
theorem ok_fraction (T : Tx K mg) (h_shared : Okf P w K mg base 1 "shared" ["one", "other"] g_shared) : Okf P w K mg base 2 "fraction" ["top", "bottom"] g_fraction := (raw_fraction T h_shared).by eq_fraction
abbrev slaw_number : Stmt := top 8
abbrev Nlaw_number : List Str := ["_law_cell", "_law_size", "_law_one"]
theorem sclaw_number : FnScope Nlaw_number ["_law_cell"] (defScope slaw_number) := ⟨rfl, rfl, rfl, by decide +kernel, rfl, by decide +kernel, by decide +kernel⟩
noncomputable def den_law_number : M Fl :=
    (dSeq (dSet 1 (dOp gIx (okN (dLst (dCons (dD (dC (.int 10))) (dCons (dD (dC (.int 100))) (dCons (dOp gPow (dC (.int 10)) (dC (.int 4))) (dCons (dOp gPow (dC (.int 10)) (dC (.int 9))) (dCons (dOp gPow (dC (.int 10)) (dC (.int 15))) (dCons (dD (dC (.int 2))) dNil)))))))) (okD (dOp gMod (dVar 0) (dC (.int 6))))))
    (dSeq (dSet 2 (dOp gAdd (okD (dOp gMul (okD (dCall g_law_mixed (dCons (dD (dVar 0)) (dCons (dD (dC (.int 3))) dNil)))) (dC (.int 2147483629)))) (okD (dCall g_law_mixed (dCons (dD (dVar 0)) (dCons (dD (dC (.int 4))) dNil))))))
    (dRet (dOp gMul (okD (dOp gIx (okN (dLst (dCons (dD (dC (.int 1))) (dCons (dNeg (dC (.int 1))) dNil)))) (okD (dOp gMod (okD (dOp gDiv (dVar 0) (dC (.int 6)))) (dC (.int 2)))))) (okD (dOp gMod (dVar 2) (dVar 1)))))))
theorem raw_law_number (T : Tx K mg) (h_law_mixed : Okf P w K mg base 1 "_law_mixed" ["_law_cell", "_law_k"] g_law_mixed) : Okf P w K mg base 2 "_law_number" ["_law_cell"] (runD 3 1 den_law_number) := by
  have sc := sclaw_number
  exact ok_has (N := Nlaw_number) T.d_law_number sc rfl (by decide) fun f cdv A outer s H E hr => ⟨_, ((bd_cons (sd_set (i := 1) sc.nd rfl (by first | exact Or.inl rfl | exact Or.inr rfl) (dd_ix (EN.e (en_lst (ad_cons (ED.d ed_int) (ad_cons (ED.d ed_int) (ad_cons (dd_pow ed_int ed_int) (ad_cons (dd_pow ed_int ed_int) (ad_cons (dd_pow ed_int ed_int) (ad_cons (ED.d ed_int) ad_nil)))))))) (DD.e (dd_mod (ed_var 0) ed_int)) (fun _ _ => rfl)))
    (bd_cons (sd_set (i := 2) sc.nd rfl (by first | exact Or.inl rfl | exact Or.inr rfl) (dd_add (DD.e (dd_mul (DD.e (dd_fn h_law_mixed (hr.mono (by decide)) (by rfl) (pol_of (takes_of rfl rfl rfl rfl)) (ad_cons (ED.d (ed_var 0)) (ad_cons (ED.d ed_int) ad_nil)))) ed_int)) (DD.e (dd_fn h_law_mixed (hr.mono (by decide)) (by rfl) (pol_of (takes_of rfl rfl rfl rfl)) (ad_cons (ED.d (ed_var 0)) (ad_cons (ED.d ed_int) ad_nil))))))
    (bd_one (sd_ret (dd_mul (DD.e (dd_ix (EN.e (en_lst (ad_cons (ED.d ed_int) (ad_cons (dd_neg ed_int) ad_nil)))) (DD.e (dd_mod (DD.e (dd_div (ed_var 0) ed_int)) ed_int)) (fun _ _ => rfl))) (DD.e (dd_mod (ed_var 2) (ed_var 1)))))))) : BD _ _ _ _ den_law_number)⟩

abbrev sizes : List Int := [10, 100, 10000, 1000000000, 1000000000000000, 2]
def num (c : Int) : Int := ([1, -1] : List Int).getD ((c.fdiv 6).fmod 2).toNat 0 * (mixed c 3 * 2147483629 + mixed c 4).fmod (sizes.getD (c.fmod 6).toNat 1)
def g_law_number : G := fun ds S => match ds with
  | [.v (.int c)] => .ok (.v (.int (num c))) S
  | _ => .no
theorem sz_bd (c : Int) : 2 ≤ sizes.getD (c.fmod 6).toNat 1 ∧ sizes.getD (c.fmod 6).toNat 1 ≤ 1000000000000000 := by
  have b := fmod_bd (c := c) (m := 6) (by decide)
  have : (c.fmod 6).toNat = 0 ∨ (c.fmod 6).toNat = 1 ∨ (c.fmod 6).toNat = 2 ∨ (c.fmod 6).toNat = 3 ∨ (c.fmod 6).toNat = 4 ∨ (c.fmod 6).toNat = 5 := by omega
  rcases this with e | e | e | e | e | e <;> rw [e] <;> decide
theorem sg_bd (c : Int) : ([1, -1] : List Int).getD (c.fmod 2).toNat 0 = 1 ∨ ([1, -1] : List Int).getD (c.fmod 2).toNat 0 = -1 := by
  have b := fmod_bd (c := c) (m := 2) (by decide)
  have : (c.fmod 2).toNat = 0 ∨ (c.fmod 2).toNat = 1 := by omega
  rcases this with e | e <;> rw [e] <;> decide
theorem eq_law_number : ∀ ds S, g_law_number ds S ≠ .no → runD 3 1 den_law_number ds S = g_law_number ds S := fun ds S h => by
  unfold g_law_number at h ⊢
  split at h
  · next c =>
    have a1 : atI [D.v (V.int 10), D.v (V.int 100), D.v (V.int 10000), D.v (V.int 1000000000), D.v (V.int 1000000000000000), D.v (V.int 2)] (c.fmod 6) = some (.v (.int (sizes.getD (c.fmod 6).toNat 1))) := atI_fmod (f := I) (xs := sizes) rfl (by decide)
    have a2 : atI [D.v (V.int 1), D.v (V.int (-1))] ((c.fdiv 6).fmod 2) = some (.v (.int (([1, -1] : List Int).getD ((c.fdiv 6).fmod 2).toNat 0))) := atI_fmod (f := I) (xs := [1, -1]) rfl (by decide)
    have e3 := gx c 3 S (by decide)
    have e4 := gx c 4 S (by decide)
    have p1 : CPow 10 4 := by decide
    have p2 : CPow 10 9 := by decide
    have p3 : CPow 10 15 := by decide
    have m1 : mulOk (mixed c 3) 2147483629 := mulOk_r (by decide)
    have d1 : divOk 6 := divOk_s (by decide) (by decide)
    have h2 : sizes.getD (c.fmod 6).toNat 1 ≠ 0 := by
      have := sz_bd c
      omega
    have m2 : mulOk (([1, -1] : List Int).getD ((c.fdiv 6).fmod 2).toNat 0) ((mixed c 3 * 2147483629 + mixed c 4).fmod (sizes.getD (c.fmod 6).toNat 1)) := mulOk_l (by
      rcases sg_bd (c.fdiv 6) with e | e <;> rw [e] <;> decide)
    simp only [den_law_number, runD, dD, dNil, dCons, dAnd, dOr, dNotT, dAndV, dOrV, dNotV, dIf, dTru, dCmpT, dSeq, dRet, dSet, dSetN, dIfS, dNx, dDrop, dOp, dNeg, dTup, dLst, dC, dK, dVar, okD, okN, frz, dCall, ofF, dAug, dPar, dApp, dChain, dListOf, dSlL, dRev,
  M.bind, M.pure, M.no, M.ne, dName, dUnit, dConsG, dTupG, gOr, gI, gS, gAdd, gSubI, gMul, gDiv, gMod, gPow, gIx, gLen, gAbs, gInt1, gSum, gAll, gAny, gMaxL, gMinL, gTupOf, g2I, gDm, gPart, gTru, gBool, gBoolO, gEq_pair, gEq_ints, gEq_sl1, gEq_sl2, opL, gEq_int, gEq_str, gEq_bl, gEq_non, gNone, gIn, gSign, gCat, gRep, gIsi,
  iLt, iLe, iGt, iGe, isNon, truD, tagD, seqD, lstD, rdlD, mutD, putL, tupD, vsD, rng1X, rng2X, enuX, zipX, seqX,
  Option.bind, Option.map, Option.bind_some, Option.map_some,
  List.map_cons, List.map_nil, List.length_cons, List.length_nil, List.nil_append, List.cons_append, List.replicate, List.getElem?_cons_zero, List.getElem?_cons_succ, List.set_cons_zero, List.set_cons_succ, List.append_nil,
  if_true, if_false, ite_true, ite_false, Nat.reduceAdd, Int.reduceToNat, Int.reducePow, Nat.reducePow, Int.reduceMul, Int.reduceAdd, Int.reduceSub, Int.reduceLT, Int.reduceLE, Nat.reduceMul, Int.cast_ofNat_Int, Nat.reduceSub, Nat.reduceLT, Nat.reduceLeDiff, ne_eq, reduceCtorEq, not_false_eq_true, not_true_eq_false, Int.reduceEq, Int.reduceNeg, Bool.false_eq_true, Bool.not_true, Bool.not_false, decide_true, decide_false, true_and, and_true, false_and, and_false, or_true, true_or, or_false, false_or, id_eq, Bool.true_eq_false, decide_eq_true_eq, Bool.not_eq_true', decide_eq_false_iff_not, Bool.not_not, blsD, List.all_cons, List.all_nil, List.any_cons, List.any_nil, Bool.and_self, Bool.and_true, Bool.or_false, dFor, dLc, itL, wipeD, backD, isi_NoneType_bool, isi_NoneType_int, isi_NoneType_str, isi_NoneType_tuple, isi_NoneType_list, isi_NoneType_dict, isi_bool_bool, isi_bool_int, isi_bool_str, isi_bool_tuple, isi_bool_list, isi_bool_dict, isi_int_bool, isi_int_int, isi_int_str, isi_int_tuple, isi_int_list, isi_int_dict, isi_str_bool, isi_str_int, isi_str_str, isi_str_tuple, isi_str_list, isi_str_dict, isi_tuple_bool, isi_tuple_int, isi_tuple_str, isi_tuple_tuple, isi_tuple_list, isi_tuple_dict, isi_list_bool, isi_list_int, isi_list_str, isi_list_tuple, isi_list_list, isi_list_dict, isi_dict_bool, isi_dict_int, isi_dict_str, isi_dict_tuple, isi_dict_list, isi_dict_dict, a1, a2, e3, e4, p1, p2, p3, m1, m2, d1, h2, num]
  · exact absurd rfl h
theorem num_bd (c : Int) : (num c).natAbs < 1000000000000000 := by
  unfold num
  have h := sz_bd c
  have b := fmod_bd (c := mixed c 3 * 2147483629 + mixed c 4) (m := sizes.getD (c.fmod 6).toNat 1) (by omega)
  rcases sg_bd (c.fdiv 6) with e | e <;> rw [e] <;> omega
theorem ok_law_number (T : Tx K mg) (h_law_mixed : Okf P w K mg base 1 "_law_mixed" ["_law_cell", "_law_k"] g_law_mixed) : Okf P w K mg base 2 "_law_number" ["_law_cell"] g_law_number := (raw_law_number T h_law_mixed).by eq_law_number
abbrev slaw_right : Stmt := top 12
abbrev Nlaw_right : List Str := ["_law_found", "_law_top", "_law_bottom", "_law_one"]
theorem sclaw_right : FnScope Nlaw_right ["_law_found", "_law_top", "_law_bottom"] (defScope slaw_right) := ⟨rfl, rfl, rfl, by decide +kernel, rfl, by decide +kernel, by decide +kernel⟩
noncomputable def claw_right1e : M D :=
    (M.bind (dD (dVar 3)) (gIsi "int"))
noncomputable def claw_right2e : M D :=
    (dD (dVar 3))
noncomputable def claw_right2t : M Bool :=
    (dTru (okD (M.bind (dD (dVar 3)) (gIsi "bool"))))
noncomputable def den_law_right : M Fl :=
    (dSeq (dIfS (dOr (dNotT (dTru (okD (M.bind (dD (dVar 0)) (gIsi "tuple"))))) (dOr (dCmpT (gEq true) (okD (M.bind (dVar 0) gLen)) (dC (.int 2))) (dCmpT (gEq true) (okN (dLc (M.bind (dD (dVar 0)) seqX) (dName 3) claw_right2t claw_right2e [3])) (okN (dLst dNil))))) (dRet (dD (dC (.bl false)))) dNx)
    (dSeq (dIfS (dOr (dNotT (dTru (okD (M.bind (okN (dLc (M.bind (dD (dVar 0)) seqX) (dName 3) (M.pure true) claw_right1e [3])) gAll)))) (dOr (dCmpT (gI iLt) (okD (dOp gIx (dVar 0) (dC (.int 1)))) (dC (.int 1))) (dCmpT (gEq true) (okD (dOp gMul (okD (dOp gIx (dVar 0) (dC (.int 0)))) (dVar 2))) (okD (dOp gMul (dVar 1) (okD (dOp gIx (dVar 0) (dC (.int 1))))))))) (dRet (dD (dC (.bl false)))) dNx)
    (dSeq (dIfS (dOr (dCmpT (gEq true) (okD (dCall g_law_parts (dCons (dOp gIx (dVar 0) (dC (.int 0))) (dCons (dOp gIx (dVar 0) (dC (.int 1))) dNil)))) (dC (.int 1))) (dCmpT (gEq true) (okD (dCall g_law_common (dCons (dOp gIx (dVar 0) (dC (.int 0))) (dCons (dOp gIx (dVar 0) (dC (.int 1))) dNil)))) (dC (.int 1)))) (dRet (dD (dC (.bl false)))) dNx)
    (dRet (dD (dAndV (okD (M.bind (dCall g_shown_fraction (dCons (dD (dVar 0)) dNil)) (gIsi "str"))) (okD (dOp (gEq false) (okD (dCall g_shown_fraction (dCons (dD (dVar 0)) dNil))) (okD (dCall g_law_text (dCons (dD (dVar 0)) dNil)))))))))))
theorem raw_law_right (T : Tx K mg) (h_law_common : Okf P w K mg base 1 "_law_common" ["_law_one", "_law_other"] g_law_common) (h_law_parts : Okf P w K mg base 1 "_law_parts" ["_law_one", "_law_other"] g_law_parts) (h_law_text : Okf P w K mg base 1 "_law_text" ["_law_one"] g_law_text) (h_shown_fraction : Okf P w K mg base 1 "shown_fraction" ["one"] g_shown_fraction) : Okf P w K mg base 2 "_law_right" ["_law_found", "_law_top", "_law_bottom"] (runD 4 3 den_law_right) := by
  have sc := sclaw_right
  exact ok_has (N := Nlaw_right) T.d_law_right sc rfl (by decide) fun f cdv A outer s H E hr => ⟨_, ((bd_cons (sd_if (td_w (wd_or (td_not (td_val (DD.e (dd_isi (x := "tuple") (cl := "tuple") (by rfl) T.n_isinstance (by decide +kernel) (ED.d (ed_var 0)) (by rfl) T.n_tuple (by decide +kernel))))) (wd_or (td_cmp (cNe hr.units) (DD.e (dd_b1 bLen (by rfl) T.n_len (by decide +kernel) (ed_var 0))) ed_int (nomark _)) (wd_or1 (td_cmp (cNe hr.units) (EN.e (en_lc (own := [("_law_one", 3)]) (W' := W0) rfl sc.nd (id_any (ED.d (ed_var 0))) (blkOk_by (N := Nlaw_right) (sc := defScope slaw_right) (by decide +kernel)) (fun _ _ _ _ _ => (gd_name (i := 3) sc.nd rfl (by first | exact Or.inl rfl | exact Or.inr rfl))) (fun _ _ _ _ _ => (tsd_one (td_val (DD.e (dd_isi (x := "bool") (cl := "bool") (by rfl) T.n_isinstance (by decide +kernel) (ED.d (ed_var 3)) (by rfl) T.n_bool (by decide +kernel)))))) (fun _ _ _ _ _ => (ED.d (ed_var 3))))) (EN.e (en_lst ad_nil)) (nomark _)))))) (bd_one (sd_ret (ED.d ed_bl))) bd_nil)
    (bd_cons (sd_if (td_w (wd_or (td_not (td_val (DD.e (dd_b1 (bAll rfl) (by rfl) T.n_all (by decide +kernel) (EN.e (en_lc (own := [("_law_one", 3)]) (W' := W0) rfl sc.nd (id_any (ED.d (ed_var 0))) (blkOk_by (N := Nlaw_right) (sc := defScope slaw_right) (by decide +kernel)) (fun _ _ _ _ _ => (gd_name (i := 3) sc.nd rfl (by first | exact Or.inl rfl | exact Or.inr rfl))) (fun _ _ _ _ _ => tsd_nil) (fun _ _ _ _ _ => (dd_isi (x := "int") (cl := "int") (by rfl) T.n_isinstance (by decide +kernel) (ED.d (ed_var 3)) (by rfl) T.n_int (by decide +kernel))))))))) (wd_or (td_cmp cLt (DD.e (dd_ix (ed_var 0) ed_int (fun _ _ => rfl))) ed_int (nomark _)) (wd_or1 (td_cmp (cNe hr.units) (DD.e (dd_mul (DD.e (dd_ix (ed_var 0) ed_int (fun _ _ => rfl))) (ed_var 2))) (DD.e (dd_mul (ed_var 1) (DD.e (dd_ix (ed_var 0) ed_int (fun _ _ => rfl))))) (nomark _)))))) (bd_one (sd_ret (ED.d ed_bl))) bd_nil)
    (bd_cons (sd_if (td_w (wd_or (td_cmp (cNe hr.units) (DD.e (dd_fn h_law_parts (hr.mono (by decide)) (by rfl) (pol_of (takes_of rfl rfl rfl rfl)) (ad_cons (dd_ix (ed_var 0) ed_int (fun _ _ => rfl)) (ad_cons (dd_ix (ed_var 0) ed_int (fun _ _ => rfl)) ad_nil)))) ed_int (nomark _)) (wd_or1 (td_cmp (cNe hr.units) (DD.e (dd_fn h_law_common (hr.mono (by decide)) (by rfl) (pol_of (takes_of rfl rfl rfl rfl)) (ad_cons (dd_ix (ed_var 0) ed_int (fun _ _ => rfl)) (ad_cons (dd_ix (ed_var 0) ed_int (fun _ _ => rfl)) ad_nil)))) ed_int (nomark _))))) (bd_one (sd_ret (ED.d ed_bl))) bd_nil)
    (bd_one (sd_ret (ED.d (ed_and (DD.e (dd_isi (x := "str") (cl := "str") (by rfl) T.n_isinstance (by decide +kernel) (dd_fn h_shown_fraction (hr.mono (by decide)) (by rfl) (pol_of (takes_of rfl rfl rfl rfl)) (ad_cons (ED.d (ed_var 0)) ad_nil)) (by rfl) T.n_str (by decide +kernel))) (ed_one (DD.e (dd_cmp (cEq hr.units) (DD.e (dd_fn h_shown_fraction (hr.mono (by decide)) (by rfl) (pol_of (takes_of rfl rfl rfl rfl)) (ad_cons (ED.d (ed_var 0)) ad_nil))) (DD.e (dd_fn h_law_text (hr.mono (by decide)) (by rfl) (pol_of (takes_of rfl rfl rfl rfl)) (ad_cons (ED.d (ed_var 0)) ad_nil))) (nomark _))))))))))) : BD _ _ _ _ den_law_right)⟩

def g_law_right : G := fun ds S => match ds with
  | [.tup [.v (.int x), .v (.int y)], .v (.int t), .v (.int b)] => if 1 ≤ y ∧ x * b = t * y ∧ gcdZ x y = 1 ∧ x.natAbs < 2 ^ 200 ∧ y.natAbs < 2 ^ 200 ∧ t.natAbs < 2 ^ 200 ∧ b.natAbs < 2 ^ 200 then .ok (.v (.bl true)) S else .no
  | _ => .no
theorem gEq_nil {neg : Bool} {c : Stt} : gEq neg (.d (.lst [])) (.d (.lst [])) c = .ok (.v (.bl (!neg))) c := by
  exact (gEq_ints (ns := []) (ms := [])).trans (by cases neg <;> rfl)
theorem eq_law_right : ∀ ds S, g_law_right ds S ≠ .no → runD 4 3 den_law_right ds S = g_law_right ds S := fun ds S h => by
  unfold g_law_right at h ⊢
  split at h
  · next x y t b =>
    split at h
    · next hk =>
      rw [if_pos hk]
      obtain ⟨h1, h2, h3, hx, hy, ht, hb⟩ := hk
      have a0 : atI [D.v (V.int x), D.v (V.int y)] 0 = some (.v (.int x)) := rfl
      have a1 : atI [D.v (V.int x), D.v (V.int y)] 1 = some (.v (.int y)) := rfl
      have m1 : mulOk x b := mulOk_b hx hb (by decide) (by decide) (by decide)
      have m2 : mulOk t y := mulOk_b ht hy (by decide) (by decide) (by decide)
      have e1 : g_law_parts [.v (.int x), .v (.int y)] S = .ok (.v (.int 1)) S := if_pos h3
      have e2 : g_law_common [.v (.int x), .v (.int y)] S = .ok (.v (.int 1)) S := (if_pos (by omega)).trans (by rw [h3])
      have hxy : x.natAbs < 2 ^ 1000 ∧ y.natAbs < 2 ^ 1000 := ⟨by omega, by omega⟩
      have e3 : g_shown_fraction [.tup [.v (.int x), .v (.int y)]] S = .ok (.v (.str (txt (x, y)))) S := if_pos hxy
      have e4 : g_law_text [.tup [.v (.int x), .v (.int y)]] S = .ok (.v (.str (txt (x, y)))) S := if_pos hxy
      have h4 : ¬y < 1 := by omega
      simp only [den_law_right, claw_right1e, claw_right2e, claw_right2t, runD, dD, dNil, dCons, dAnd, dOr, dNotT, dAndV, dOrV, dNotV, dIf, dTru, dCmpT, dSeq, dRet, dSet, dSetN, dIfS, dNx, dDrop, dOp, dNeg, dTup, dLst, dC, dK, dVar, okD, okN, frz, dCall, ofF, dAug, dPar, dApp, dChain, dListOf, dSlL, dRev,
  M.bind, M.pure, M.no, M.ne, dName, dUnit, dConsG, dTupG, gOr, gI, gS, gAdd, gSubI, gMul, gDiv, gMod, gPow, gIx, gLen, gAbs, gInt1, gSum, gAll, gAny, gMaxL, gMinL, gTupOf, g2I, gDm, gPart, gTru, gBool, gBoolO, gEq_pair, gEq_ints, gEq_sl1, gEq_sl2, opL, gEq_int, gEq_str, gEq_bl, gEq_non, gNone, gIn, gSign, gCat, gRep, gIsi,
  iLt, iLe, iGt, iGe, isNon, truD, tagD, seqD, lstD, rdlD, mutD, putL, tupD, vsD, rng1X, rng2X, enuX, zipX, seqX,
  Option.bind, Option.map, Option.bind_some, Option.map_some,
  List.map_cons, List.map_nil, List.length_cons, List.length_nil, List.nil_append, List.cons_append, List.replicate, List.getElem?_cons_zero, List.getElem?_cons_succ, List.set_cons_zero, List.set_cons_succ, List.append_nil,
  if_true, if_false, ite_true, ite_false, Nat.reduceAdd, Int.reduceToNat, Int.reducePow, Nat.reducePow, Int.reduceMul, Int.reduceAdd, Int.reduceSub, Int.reduceLT, Int.reduceLE, Nat.reduceMul, Int.cast_ofNat_Int, Nat.reduceSub, Nat.reduceLT, Nat.reduceLeDiff, ne_eq, reduceCtorEq, not_false_eq_true, not_true_eq_false, Int.reduceEq, Int.reduceNeg, Bool.false_eq_true, Bool.not_true, Bool.not_false, decide_true, decide_false, true_and, and_true, false_and, and_false, or_true, true_or, or_false, false_or, id_eq, Bool.true_eq_false, decide_eq_true_eq, Bool.not_eq_true', decide_eq_false_iff_not, Bool.not_not, blsD, List.all_cons, List.all_nil, List.any_cons, List.any_nil, Bool.and_self, Bool.and_true, Bool.or_false, dFor, dLc, itL, wipeD, backD, isi_NoneType_bool, isi_NoneType_int, isi_NoneType_str, isi_NoneType_tuple, isi_NoneType_list, isi_NoneType_dict, isi_bool_bool, isi_bool_int, isi_bool_str, isi_bool_tuple, isi_bool_list, isi_bool_dict, isi_int_bool, isi_int_int, isi_int_str, isi_int_tuple, isi_int_list, isi_int_dict, isi_str_bool, isi_str_int, isi_str_str, isi_str_tuple, isi_str_list, isi_str_dict, isi_tuple_bool, isi_tuple_int, isi_tuple_str, isi_tuple_tuple, isi_tuple_list, isi_tuple_dict, isi_list_bool, isi_list_int, isi_list_str, isi_list_tuple, isi_list_list, isi_list_dict, isi_dict_bool, isi_dict_int, isi_dict_str, isi_dict_tuple, isi_dict_list, isi_dict_dict, a0, a1, m1, m2, e1, e2, e3, e4, h4, h2, gEq_nil]
    · exact absurd rfl h
  · exact absurd rfl h
theorem ok_law_right (T : Tx K mg) (h_law_common : Okf P w K mg base 1 "_law_common" ["_law_one", "_law_other"] g_law_common) (h_law_parts : Okf P w K mg base 1 "_law_parts" ["_law_one", "_law_other"] g_law_parts) (h_law_text : Okf P w K mg base 1 "_law_text" ["_law_one"] g_law_text) (h_shown_fraction : Okf P w K mg base 1 "shown_fraction" ["one"] g_shown_fraction) : Okf P w K mg base 2 "_law_right" ["_law_found", "_law_top", "_law_bottom"] g_law_right := (raw_law_right T h_law_common h_law_parts h_law_text h_shown_fraction).by eq_law_right
abbrev smean : Stmt := top 3
abbrev Nmean : List Str := ["numbers"]
theorem scmean : FnScope Nmean ["numbers"] (defScope smean) := ⟨rfl, rfl, rfl, by decide +kernel, rfl, by decide +kernel, by decide +kernel⟩
noncomputable def den_mean : M Fl :=
    (dRet (dCall g_fraction (dCons (M.bind (dVar 0) gSum) (dCons (M.bind (dVar 0) gLen) dNil))))
theorem raw_mean (T : Tx K mg) (h_fraction : Okf P w K mg base 2 "fraction" ["top", "bottom"] g_fraction) : Okf P w K mg base 3 "mean" ["numbers"] (runD 1 1 den_mean) := by
  have sc := scmean
  exact ok_has (N := Nmean) T.d_mean sc rfl (by decide) fun f cdv A outer s H E hr => ⟨_, ((bd_one (sd_ret (dd_fn h_fraction (hr.mono (by decide)) (by rfl) (pol_of (takes_of rfl rfl rfl rfl)) (ad_cons (dd_b1 (bSum rfl) (by rfl) T.n_sum (by decide +kernel) (ed_var 0)) (ad_cons (dd_b1 bLen (by rfl) T.n_len (by decide +kernel) (ed_var 0)) ad_nil))))) : BD _ _ _ _ den_mean)⟩

def g_mean : G := fun ds S => match ds with
  | [.lst es] => match intsD es with
    | some ns => if ns ≠ [] ∧ ns.length < 1000 ∧ ns.sum.natAbs < 2 ^ 200 then .ok (pairD (frac ns.sum ns.length)) S else .no
    | none => .no
  | _ => .no
theorem eq_mean : ∀ ds S, g_mean ds S ≠ .no → runD 1 1 den_mean ds S = g_mean ds S := fun ds S h => by
  unfold g_mean at h ⊢
  split at h
  · next es =>
    split at h
    · next ns hn =>
      split at h
      · next hk =>
        have hl := intsD_len hn
        have h0 : 0 < ns.length := List.length_pos_iff.mpr hk.1
        have e1 : g_fraction [.v (.int ns.sum), .v (.int (ns.length : Int))] S = .ok (pairD (frac ns.sum ns.length)) S := gf _ _ S (by omega) hk.2.2 (by omega)
        rw [if_pos hk]
        simp only [den_mean, runD, dD, dNil, dCons, dAnd, dOr, dNotT, dAndV, dOrV, dNotV, dIf, dTru, dCmpT, dSeq, dRet, dSet, dSetN, dIfS, dNx, dDrop, dOp, dNeg, dTup, dLst, dC, dK, dVar, okD, okN, frz, dCall, ofF, dAug, dPar, dApp, dChain, dListOf, dSlL, dRev,
  M.bind, M.pure, M.no, M.ne, dName, dUnit, dConsG, dTupG, gOr, gI, gS, gAdd, gSubI, gMul, gDiv, gMod, gPow, gIx, gLen, gAbs, gInt1, gSum, gAll, gAny, gMaxL, gMinL, gTupOf, g2I, gDm, gPart, gTru, gBool, gBoolO, gEq_pair, gEq_ints, gEq_sl1, gEq_sl2, opL, gEq_int, gEq_str, gEq_bl, gEq_non, gNone, gIn, gSign, gCat, gRep, gIsi,
  iLt, iLe, iGt, iGe, isNon, truD, tagD, seqD, lstD, rdlD, mutD, putL, tupD, vsD, rng1X, rng2X, enuX, zipX, seqX,
  Option.bind, Option.map, Option.bind_some, Option.map_some,
  List.map_cons, List.map_nil, List.length_cons, List.length_nil, List.nil_append, List.cons_append, List.replicate, List.getElem?_cons_zero, List.getElem?_cons_succ, List.set_cons_zero, List.set_cons_succ, List.append_nil,
  if_true, if_false, ite_true, ite_false, Nat.reduceAdd, Int.reduceToNat, Int.reducePow, Nat.reducePow, Int.reduceMul, Int.reduceAdd, Int.reduceSub, Int.reduceLT, Int.reduceLE, Nat.reduceMul, Int.cast_ofNat_Int, Nat.reduceSub, Nat.reduceLT, Nat.reduceLeDiff, ne_eq, reduceCtorEq, not_false_eq_true, not_true_eq_false, Int.reduceEq, Int.reduceNeg, Bool.false_eq_true, Bool.not_true, Bool.not_false, decide_true, decide_false, true_and, and_true, false_and, and_false, or_true, true_or, or_false, false_or, id_eq, Bool.true_eq_false, decide_eq_true_eq, Bool.not_eq_true', decide_eq_false_iff_not, Bool.not_not, blsD, List.all_cons, List.all_nil, List.any_cons, List.any_nil, Bool.and_self, Bool.and_true, Bool.or_false, dFor, dLc, itL, wipeD, backD, isi_NoneType_bool, isi_NoneType_int, isi_NoneType_str, isi_NoneType_tuple, isi_NoneType_list, isi_NoneType_dict, isi_bool_bool, isi_bool_int, isi_bool_str, isi_bool_tuple, isi_bool_list, isi_bool_dict, isi_int_bool, isi_int_int, isi_int_str, isi_int_tuple, isi_int_list, isi_int_dict, isi_str_bool, isi_str_int, isi_str_str, isi_str_tuple, isi_str_list, isi_str_dict, isi_tuple_bool, isi_tuple_int, isi_tuple_str, isi_tuple_tuple, isi_tuple_list, isi_tuple_dict, isi_list_bool, isi_list_int, isi_list_str, isi_list_tuple, isi_list_list, isi_list_dict, isi_dict_bool, isi_dict_int, isi_dict_str, isi_dict_tuple, isi_dict_list, isi_dict_dict, hn, hl, e1]
      · exact absurd rfl h
    · exact absurd rfl h
  · exact absurd rfl h
theorem gm (ns : List Int) (S : List Cell) (h0 : ns ≠ []) (h1 : ns.length < 1000) (h2 : ns.sum.natAbs < 2 ^ 200) : g_mean [.lst (ns.map I)] S = .ok (pairD (frac ns.sum ns.length)) S := by
  unfold g_mean
  dsimp only
  rw [intsD_map]
  dsimp only
  rw [if_pos ⟨h0, h1, h2⟩]
theorem ok_mean (T : Tx K mg) (h_fraction : Okf P w K mg base 2 "fraction" ["top", "bottom"] g_fraction) : Okf P w K mg base 3 "mean" ["numbers"] g_mean := (raw_mean T h_fraction).by eq_mean
abbrev slaw : Stmt := top 13
abbrev Nlaw : List Str := ["_law_script", "_law_k", "_law_cell", "_law_common_here", "_law_top", "_law_bottom", "_law_numbers", "_law_mixed_here", "_law_handed", "_law_total", "_law_one"]
theorem sclaw : FnScope Nlaw ["_law_script"] (defScope slaw) := ⟨rfl, rfl, rfl, by decide +kernel, rfl, by decide +kernel, by decide +kernel⟩
noncomputable def claw1e : M D :=
    (dOp gAdd (dVar 10) (dC (.int 1)))
noncomputable def flaw1b : M Fl :=
    (dSeq (dSet 7 (dCall g_law_mixed (dCons (dD (dVar 2)) (dCons (dOp gAdd (dC (.int 20)) (dVar 1)) dNil))))
    (dDrop (okD (dApp (dVar 6) (dOp gIx (okN (dLst (dCons (dCall g_law_number (dCons (dOp gDiv (dVar 7) (dC (.int 7))) dNil)) (dCons (dOp gMod (okD (dOp gDiv (dVar 7) (dC (.int 7)))) (dC (.int 30))) (dCons (dD (dC (.int 0))) dNil))))) (okD (dOp gMod (dVar 7) (dC (.int 3)))))))))
noncomputable def flaw2b : M Fl :=
    (dSeq (dSet 2 (dCall g_law_mixed (dCons (dCall g_law_cell_at (dCons (dD (dVar 0)) (dCons (dD (dVar 1)) dNil))) (dCons (dD (dVar 1)) dNil))))
    (dSeq (dSet 3 (dOp gIx (okN (dLst (dCons (dD (dC (.int 1))) (dCons (dD (dC (.int 1))) (dCons (dD (dC (.int 6))) (dCons (dD (dC (.int 35))) (dCons (dD (dC (.int 1024))) (dCons (dD (dC (.int 999983))) dNil)))))))) (okD (dOp gMod (dVar 2) (dC (.int 6))))))
    (dSeq (dSet 4 (dOp gMul (okD (dCall g_law_number (dCons (dOp gDiv (dVar 2) (dC (.int 6))) dNil))) (dVar 3)))
    (dSeq (dSet 5 (dOp gMul (okD (dCall g_law_number (dCons (dOp gDiv (dVar 2) (dC (.int 7))) dNil))) (dVar 3)))
    (dSeq (dIfS (dCmpT (gEq false) (dVar 5) (dC (.int 0))) (dSet 5 (dOp gIx (okN (dLst (dCons (dD (dC (.int 1))) (dCons (dNeg (dC (.int 1))) (dCons (dD (dVar 3)) (dCons (dNeg (dC (.int 7))) dNil)))))) (okD (dOp gMod (okD (dOp gDiv (dVar 2) (dC (.int 8)))) (dC (.int 4)))))) dNx)
    (dSeq (dIfS (dOr (dNotT (dTru (okD (dCall g_law_right (dCons (dCall g_fraction (dCons (dD (dVar 4)) (dCons (dD (dVar 5)) dNil))) (dCons (dD (dVar 4)) (dCons (dD (dVar 5)) dNil))))))) (dCmpT (gEq true) (okD (dCall g_fraction (dCons (dD (dC (.int 0))) (dCons (dD (dVar 5)) dNil)))) (okD (dTup (dCons (dD (dC (.int 0))) (dCons (dD (dC (.int 1))) dNil)))))) (dRet (dD (dC (.bl false)))) dNx)
    (dIfS (dOr (dCmpT (gEq true) (okD (dCall g_fraction (dCons (dD (dVar 5)) (dCons (dD (dVar 5)) dNil)))) (okD (dTup (dCons (dD (dC (.int 1))) (dCons (dD (dC (.int 1))) dNil))))) (dCmpT (gEq true) (okD (dCall g_fraction (dCons (dNeg (dVar 4)) (dCons (dD (dVar 5)) dNil)))) (okD (dCall g_fraction (dCons (dD (dVar 4)) (dCons (dNeg (dVar 5)) dNil)))))) (dRet (dD (dC (.bl false)))) dNx)))))))
noncomputable def den_law : M Fl :=
    (dSeq (dFor (M.bind (dCons (dD (dC (.int 4))) dNil) rng1X) (dName 1) flaw2b)
    (dSeq (dSetN 6 (dLst dNil))
    (dSeq (dFor (M.bind (dCons (dOp gAdd (okN (dLst (dCons (dCall g_law_cell_at (dCons (dD (dVar 0)) (dCons (dD (dC (.int 4))) dNil))) dNil))) (okN (dSlL (dVar 0) (M.bind (dC (.int 5)) gPart) (M.bind (dC (.int 16)) gPart)))) dNil) enuX) (dTupG 2 (dConsG (dName 1) (dConsG (dName 2) dUnit))) flaw1b)
    (dSeq (dSetN 8 (dListOf (dVar 6)))
    (dSeq (dSet 9 (M.bind (dVar 6) gSum))
    (dSeq (dIfS (dOr (dNotT (dTru (okD (dCall g_law_right (dCons (dCall g_mean (dCons (dD (dVar 8)) dNil)) (dCons (dD (dVar 9)) (dCons (M.bind (dVar 6) gLen) dNil))))))) (dCmpT (gEq true) (dVar 8) (dVar 6))) (dRet (dD (dC (.bl false)))) dNx)
    (dSeq (dIfS (dOr (dCmpT (gEq true) (okD (dCall g_mean (dCons (dD (okN (dRev (dVar 6)))) dNil))) (okD (dCall g_mean (dCons (dD (dVar 8)) dNil)))) (dCmpT (gEq true) (okD (dCall g_mean (dCons (dOp gAdd (dVar 6) (dVar 6)) dNil))) (okD (dCall g_mean (dCons (dD (dVar 6)) dNil))))) (dRet (dD (dC (.bl false)))) dNx)
    (dRet (dCall g_law_right (dCons (dCall g_mean (dCons (dD (okN (dLc (M.bind (dD (dVar 6)) seqX) (dName 10) (M.pure true) claw1e [10]))) dNil)) (dCons (dOp gAdd (dVar 9) (okD (M.bind (dVar 6) gLen))) (dCons (M.bind (dVar 6) gLen) dNil))))))))))))
theorem raw_law (T : Tx K mg) (h_law_cell_at : Okf P w K mg base 1 "_law_cell_at" ["_law_script", "_law_k"] g_law_cell_at) (h_law_mixed : Okf P w K mg base 1 "_law_mixed" ["_law_cell", "_law_k"] g_law_mixed) (h_law_number : Okf P w K mg base 2 "_law_number" ["_law_cell"] g_law_number) (h_law_right : Okf P w K mg base 2 "_law_right" ["_law_found", "_law_top", "_law_bottom"] g_law_right) (h_fraction : Okf P w K mg base 2 "fraction" ["top", "bottom"] g_fraction) (h_mean : Okf P w K mg base 3 "mean" ["numbers"] g_mean) {f : Addr} {fd : FuncData} (F : Fun K "law" "law" slaw f fd) : FnOk P w K mg base (L2.CX P w) 4 f fd ["_law_script"] (spG K (runD 11 1 den_law)) := by
  have sc := sclaw
  exact fn_ok (N := Nlaw) F sc rfl (by decide) fun cdv A outer s H E hr => ⟨_, ((bd_cons (sd_for (passes_of rfl) rfl (id_range1 (by rfl) T.n_range (ad_cons (ED.d ed_int) ad_nil)) (gd_name (i := 1) sc.nd rfl (by first | exact Or.inl rfl | exact Or.inr rfl)) (bd_cons (sd_set (i := 2) sc.nd rfl (by first | exact Or.inl rfl | exact Or.inr rfl) (dd_fn h_law_mixed (hr.mono (by decide)) (by rfl) (pol_of (takes_of rfl rfl rfl rfl)) (ad_cons (dd_fn h_law_cell_at (hr.mono (by decide)) (by rfl) (pol_of (takes_of rfl rfl rfl rfl)) (ad_cons (ED.d (ed_var 0)) (ad_cons (ED.d (ed_var 1)) ad_nil))) (ad_cons (ED.d (ed_var 1)) ad_nil))))
    (bd_cons (sd_set (i := 3) sc.nd rfl (by first | exact Or.inl rfl | exact Or.inr rfl) (dd_ix (EN.e (en_lst (ad_cons (ED.d ed_int) (ad_cons (ED.d ed_int) (ad_cons (ED.d ed_int) (ad_cons (ED.d ed_int) (ad_cons (ED.d ed_int) (ad_cons (ED.d ed_int) ad_nil)))))))) (DD.e (dd_mod (ed_var 2) ed_int)) (fun _ _ => rfl)))
    (bd_cons (sd_set (i := 4) sc.nd rfl (by first | exact Or.inl rfl | exact Or.inr rfl) (dd_mul (DD.e (dd_fn h_law_number (hr.mono (by decide)) (by rfl) (pol_of (takes_of rfl rfl rfl rfl)) (ad_cons (dd_div (ed_var 2) ed_int) ad_nil))) (ed_var 3)))
    (bd_cons (sd_set (i := 5) sc.nd rfl (by first | exact Or.inl rfl | exact Or.inr rfl) (dd_mul (DD.e (dd_fn h_law_number (hr.mono (by decide)) (by rfl) (pol_of (takes_of rfl rfl rfl rfl)) (ad_cons (dd_div (ed_var 2) ed_int) ad_nil))) (ed_var 3)))
    (bd_cons (sd_if (td_cmp (cEq hr.units) (ed_var 5) ed_int (nomark _)) (bd_one (sd_set (i := 5) sc.nd rfl (by first | exact Or.inl rfl | exact Or.inr rfl) (dd_ix (EN.e (en_lst (ad_cons (ED.d ed_int) (ad_cons (dd_neg ed_int) (ad_cons (ED.d (ed_var 3)) (ad_cons (dd_neg ed_int) ad_nil)))))) (DD.e (dd_mod (DD.e (dd_div (ed_var 2) ed_int)) ed_int)) (fun _ _ => rfl)))) bd_nil)
    (bd_cons (sd_if (td_w (wd_or (td_not (td_val (DD.e (dd_fn h_law_right (hr.mono (by decide)) (by rfl) (pol_of (takes_of rfl rfl rfl rfl)) (ad_cons (dd_fn h_fraction (hr.mono (by decide)) (by rfl) (pol_of (takes_of rfl rfl rfl rfl)) (ad_cons (ED.d (ed_var 4)) (ad_cons (ED.d (ed_var 5)) ad_nil))) (ad_cons (ED.d (ed_var 4)) (ad_cons (ED.d (ed_var 5)) ad_nil))))))) (wd_or1 (td_cmp (cNe hr.units) (DD.e (dd_fn h_fraction (hr.mono (by decide)) (by rfl) (pol_of (takes_of rfl rfl rfl rfl)) (ad_cons (ED.d ed_int) (ad_cons (ED.d (ed_var 5)) ad_nil)))) (DD.e (dd_tup (ad_cons (ED.d ed_int) (ad_cons (ED.d ed_int) ad_nil)))) (nomark _))))) (bd_one (sd_ret (ED.d ed_bl))) bd_nil)
    (bd_one (sd_if (td_w (wd_or (td_cmp (cNe hr.units) (DD.e (dd_fn h_fraction (hr.mono (by decide)) (by rfl) (pol_of (takes_of rfl rfl rfl rfl)) (ad_cons (ED.d (ed_var 5)) (ad_cons (ED.d (ed_var 5)) ad_nil)))) (DD.e (dd_tup (ad_cons (ED.d ed_int) (ad_cons (ED.d ed_int) ad_nil)))) (nomark _)) (wd_or1 (td_cmp (cNe hr.units) (DD.e (dd_fn h_fraction (hr.mono (by decide)) (by rfl) (pol_of (takes_of rfl rfl rfl rfl)) (ad_cons (dd_neg (ed_var 4)) (ad_cons (ED.d (ed_var 5)) ad_nil)))) (DD.e (dd_fn h_fraction (hr.mono (by decide)) (by rfl) (pol_of (takes_of rfl rfl rfl rfl)) (ad_cons (ED.d (ed_var 4)) (ad_cons (dd_neg (ed_var 5)) ad_nil)))) (nomark _))))) (bd_one (sd_ret (ED.d ed_bl))) bd_nil)))))))))
    (bd_cons (sd_setN (i := 6) sc.nd rfl (by first | exact Or.inl rfl | exact Or.inr rfl) (en_lst ad_nil))
    (bd_cons (sd_for (passes_of rfl) rfl (id_enum (by rfl) T.n_enumerate (ad_cons (dd_add (EN.e (en_lst (ad_cons (dd_fn h_law_cell_at (hr.mono (by decide)) (by rfl) (pol_of (takes_of rfl rfl rfl rfl)) (ad_cons (ED.d (ed_var 0)) (ad_cons (ED.d ed_int) ad_nil))) ad_nil))) (EN.e (en_slice (ed_var 0) (od_some ed_int) (od_some ed_int)))) ad_nil)) (gd_tup rfl (gds_cons (gd_name (i := 1) sc.nd rfl (by first | exact Or.inl rfl | exact Or.inr rfl)) (gds_cons (gd_name (i := 2) sc.nd rfl (by first | exact Or.inl rfl | exact Or.inr rfl)) gds_nil))) (bd_cons (sd_set (i := 7) sc.nd rfl (by first | exact Or.inl rfl | exact Or.inr rfl) (dd_fn h_law_mixed (hr.mono (by decide)) (by rfl) (pol_of (takes_of rfl rfl rfl rfl)) (ad_cons (ED.d (ed_var 2)) (ad_cons (dd_add ed_int (ed_var 1)) ad_nil))))
    (bd_one (sd_expr (DD.e (dd_append (ed_var 6) (dd_ix (EN.e (en_lst (ad_cons (dd_fn h_law_number (hr.mono (by decide)) (by rfl) (pol_of (takes_of rfl rfl rfl rfl)) (ad_cons (dd_div (ed_var 7) ed_int) ad_nil)) (ad_cons (dd_mod (DD.e (dd_div (ed_var 7) ed_int)) ed_int) (ad_cons (ED.d ed_int) ad_nil))))) (DD.e (dd_mod (ed_var 7) ed_int)) (fun _ _ => rfl))))))))
    (bd_cons (sd_setN (i := 8) sc.nd rfl (by first | exact Or.inl rfl | exact Or.inr rfl) (en_listOf (by rfl) T.n_list (by decide +kernel) (ed_var 6)))
    (bd_cons (sd_set (i := 9) sc.nd rfl (by first | exact Or.inl rfl | exact Or.inr rfl) (dd_b1 (bSum rfl) (by rfl) T.n_sum (by decide +kernel) (ed_var 6)))
    (bd_cons (sd_if (td_w (wd_or (td_not (td_val (DD.e (dd_fn h_law_right (hr.mono (by decide)) (by rfl) (pol_of (takes_of rfl rfl rfl rfl)) (ad_cons (dd_fn h_mean (hr.mono (by decide)) (by rfl) (pol_of (takes_of rfl rfl rfl rfl)) (ad_cons (ED.d (ed_var 8)) ad_nil)) (ad_cons (ED.d (ed_var 9)) (ad_cons (dd_b1 bLen (by rfl) T.n_len (by decide +kernel) (ed_var 6)) ad_nil))))))) (wd_or1 (td_cmp (cNe hr.units) (ed_var 8) (ed_var 6) (nomark _))))) (bd_one (sd_ret (ED.d ed_bl))) bd_nil)
    (bd_cons (sd_if (td_w (wd_or (td_cmp (cNe hr.units) (DD.e (dd_fn h_mean (hr.mono (by decide)) (by rfl) (pol_of (takes_of rfl rfl rfl rfl)) (ad_cons (ED.d (EN.e (en_rev (ed_var 6)))) ad_nil))) (DD.e (dd_fn h_mean (hr.mono (by decide)) (by rfl) (pol_of (takes_of rfl rfl rfl rfl)) (ad_cons (ED.d (ed_var 8)) ad_nil))) (nomark _)) (wd_or1 (td_cmp (cNe hr.units) (DD.e (dd_fn h_mean (hr.mono (by decide)) (by rfl) (pol_of (takes_of rfl rfl rfl rfl)) (ad_cons (dd_add (ed_var 6) (ed_var 6)) ad_nil))) (DD.e (dd_fn h_mean (hr.mono (by decide)) (by rfl) (pol_of (takes_of rfl rfl rfl rfl)) (ad_cons (ED.d (ed_var 6)) ad_nil))) (nomark _))))) (bd_one (sd_ret (ED.d ed_bl))) bd_nil)
    (bd_one (sd_ret (dd_fn h_law_right (hr.mono (by decide)) (by rfl) (pol_of (takes_of rfl rfl rfl rfl)) (ad_cons (dd_fn h_mean (hr.mono (by decide)) (by rfl) (pol_of (takes_of rfl rfl rfl rfl)) (ad_cons (ED.d (EN.e (en_lc (own := [("_law_one", 10)]) (W' := W0) rfl sc.nd (id_any (ED.d (ed_var 6))) (blkOk_by (N := Nlaw) (sc := defScope slaw) (by decide +kernel)) (fun _ _ _ _ _ => (gd_name (i := 10) sc.nd rfl (by first | exact Or.inl rfl | exact Or.inr rfl))) (fun _ _ _ _ _ => tsd_nil) (fun _ _ _ _ _ => (dd_add (ed_var 10) ed_int))))) ad_nil)) (ad_cons (dd_add (ed_var 9) (DD.e (dd_b1 bLen (by rfl) T.n_len (by decide +kernel) (ed_var 6)))) (ad_cons (dd_b1 bLen (by rfl) T.n_len (by decide +kernel) (ed_var 6)) ad_nil))))))))))))) : BD _ _ _ _ den_law)⟩

abbrev coms : List Int := [1, 1, 6, 35, 1024, 999983]
theorem coms_bd (c : Int) : 1 ≤ coms.getD (c.fmod 6).toNat 0 ∧ coms.getD (c.fmod 6).toNat 0 ≤ 999983 := by
  have b := fmod_bd (c := c) (m := 6) (by decide)
  have : (c.fmod 6).toNat = 0 ∨ (c.fmod 6).toNat = 1 ∨ (c.fmod 6).toNat = 2 ∨ (c.fmod 6).toNat = 3 ∨ (c.fmod 6).toNat = 4 ∨ (c.fmod 6).toNat = 5 := by omega
  rcases this with e | e | e | e | e | e <;> rw [e] <;> decide
theorem gn (c : Int) (S : List Cell) : g_law_number [.v (.int c)] S = .ok (.v (.int (num c))) S := rfl
theorem gr (t b : Int) (S : List Cell) (h : b ≠ 0) (h1 : t.natAbs < 2 ^ 200) (h2 : b.natAbs < 2 ^ 200) : g_law_right [.tup [.v (.int (frac t b).1), .v (.int (frac t b).2)], .v (.int t), .v (.int b)] S = .ok (.v (.bl true)) S := by
  have r := red_frac (t := t) h
  exact if_pos ⟨r.pos, r.eq, r.one, Nat.lt_of_le_of_lt r.le1 h1, Nat.lt_of_le_of_lt r.le2 h2, h1, h2⟩
theorem rest (t b : Int) (h : b ≠ 0) (h1 : t.natAbs < 2 ^ 200) (h2 : b.natAbs < 2 ^ 200) :
    g_fraction [.v (.int t), .v (.int b)] [] = .ok (.tup [.v (.int (frac t b).1), .v (.int (frac t b).2)]) [] ∧
    g_fraction [.v (.int 0), .v (.int b)] [] = .ok (.tup [.v (.int 0), .v (.int 1)]) [] ∧
    g_fraction [.v (.int b), .v (.int b)] [] = .ok (.tup [.v (.int 1), .v (.int 1)]) [] ∧
    g_fraction [.v (.int (-t)), .v (.int b)] [] = .ok (.tup [.v (.int (frac (-t) b).1), .v (.int (frac (-t) b).2)]) [] ∧
    g_fraction [.v (.int t), .v (.int (-b))] [] = .ok (.tup [.v (.int (frac (-t) b).1), .v (.int (frac (-t) b).2)]) [] := by
  refine ⟨gf t b [] h h1 h2, ?_, ?_, ?_, ?_⟩
  · rw [gf 0 b [] h (by decide) h2, frac_eq (t2 := 0) (b2 := 1) h (by decide) (by omega)]
    rfl
  · rw [gf b b [] h h2 h2, frac_eq (t2 := 1) (b2 := 1) h (by decide) (by omega)]
    rfl
  · rw [gf (-t) b [] h (by rw [Int.natAbs_neg]; exact h1) h2]
    rfl
  · rw [gf t (-b) [] (by omega) h1 (by rw [Int.natAbs_neg]; exact h2), frac_eq (t := t) (b := -b) (t2 := -t) (b2 := b) (by omega) h (by rw [Int.neg_mul_neg])]
    rfl
theorem mul_bd {x y : Int} {a b : Nat} (hx : x.natAbs < a) (hy : y.natAbs < b) : (x * y).natAbs < a * b := by
  rw [Int.natAbs_mul]
  exact Nat.mul_lt_mul'' hx hy
theorem body1 (ns : List Int) (j : Nat) (x1 x2 x3 x4 x5 : Slot) (hj : j < 4) : ∃ y2 y3 y4 y5, flaw2b ⟨[.d (scr ns), .d (.v (.int (j : Nat))), x2, x3, x4, x5, .no, .no, .no, .no, .no], []⟩ = .ok .nx ⟨[.d (scr ns), .d (.v (.int (j : Nat))), y2, y3, y4, y5, .no, .no, .no, .no, .no], []⟩ := by
  have e1 := gc ns (j : Nat) [] (by omega)
  generalize ns.getD ((j : Nat) : Int).toNat 0 = cz at e1
  have e2 := gx cz (j : Nat) [] (by omega)
  generalize mixed cz (j : Nat) = c at e2
  have a1 : atI [D.v (V.int 1), D.v (V.int 1), D.v (V.int 6), D.v (V.int 35), D.v (V.int 1024), D.v (V.int 999983)] (c.fmod 6) = some (.v (.int (coms.getD (c.fmod 6).toNat 0))) := atI_fmod (f := I) (xs := coms) rfl (by decide)
  have hm := coms_bd c
  generalize coms.getD (c.fmod 6).toNat 0 = m at a1 hm
  have e3 := gn (c.fdiv 6) []
  have e4 := gn (c.fdiv 7) []
  have n3 := num_bd (c.fdiv 6)
  have n4 := num_bd (c.fdiv 7)
  generalize num (c.fdiv 6) = t0 at e3 n3
  generalize num (c.fdiv 7) = b0 at e4 n4
  have m1 : mulOk t0 m := mulOk_r (by omega)
  have m2 : mulOk b0 m := mulOk_r (by omega)
  have d6 : divOk 6 := divOk_s (by decide) (by decide)
  have d7 : divOk 7 := divOk_s (by decide) (by decide)
  have d8 : divOk 8 := divOk_s (by decide) (by decide)
  have ht : (t0 * m).natAbs < 2 ^ 200 := Nat.lt_of_lt_of_le (mul_bd (b := 1000000) n3 (by omega)) (by decide)
  have hb : (b0 * m).natAbs < 2 ^ 200 := Nat.lt_of_lt_of_le (mul_bd (b := 1000000) n4 (by omega)) (by decide)
  generalize ht0 : t0 * m = t at ht
  generalize hb0 : b0 * m = b at hb
  by_cases h0 : b = 0
  · have a2 : atI [D.v (V.int 1), D.v (V.int (-1)), D.v (V.int m), D.v (V.int (-7))] ((c.fdiv 8).fmod 4) = some (.v (.int (([1, -1, m, -7] : List Int).getD ((c.fdiv 8).fmod 4).toNat 0))) := atI_fmod (f := I) (xs := [1, -1, m, -7]) rfl (by decide)
    have hz : ([1, -1, m, -7] : List Int).getD ((c.fdiv 8).fmod 4).toNat 0 ≠ 0 ∧ (([1, -1, m, -7] : List Int).getD ((c.fdiv 8).fmod 4).toNat 0).natAbs < 2 ^ 200 := by
      have b := fmod_bd (c := c.fdiv 8) (m := 4) (by decide)
      have : ((c.fdiv 8).fmod 4).toNat = 0 ∨ ((c.fdiv 8).fmod 4).toNat = 1 ∨ ((c.fdiv 8).fmod 4).toNat = 2 ∨ ((c.fdiv 8).fmod 4).toNat = 3 := by omega
      rcases this with e | e | e | e <;> rw [e]
      · show (1 : Int) ≠ 0 ∧ (1 : Int).natAbs < 2 ^ 200
        decide
      · show (-1 : Int) ≠ 0 ∧ (-1 : Int).natAbs < 2 ^ 200
        decide
      · show m ≠ 0 ∧ m.natAbs < 2 ^ 200
        omega
      · show (-7 : Int) ≠ 0 ∧ (-7 : Int).natAbs < 2 ^ 200
        decide
    generalize ([1, -1, m, -7] : List Int).getD ((c.fdiv 8).fmod 4).toNat 0 = z at a2 hz
    obtain ⟨f1, f2, f3, f4, f5⟩ := rest t z hz.1 ht hz.2
    have f6 := gr t z [] hz.1 ht hz.2
    refine ⟨.d (.v (.int c)), .d (.v (.int m)), .d (.v (.int t)), .d (.v (.int z)), ?_⟩
    simp only [flaw2b, runD, dD, dNil, dCons, dAnd, dOr, dNotT, dAndV, dOrV, dNotV, dIf, dTru, dCmpT, dSeq, dRet, dSet, dSetN, dIfS, dNx, dDrop, dOp, dNeg, dTup, dLst, dC, dK, dVar, okD, okN, frz, dCall, ofF, dAug, dPar, dApp, dChain, dListOf, dSlL, dRev,
  M.bind, M.pure, M.no, M.ne, dName, dUnit, dConsG, dTupG, gOr, gI, gS, gAdd, gSubI, gMul, gDiv, gMod, gPow, gIx, gLen, gAbs, gInt1, gSum, gAll, gAny, gMaxL, gMinL, gTupOf, g2I, gDm, gPart, gTru, gBool, gBoolO, gEq_pair, gEq_ints, gEq_sl1, gEq_sl2, opL, gEq_int, gEq_str, gEq_bl, gEq_non, gNone, gIn, gSign, gCat, gRep, gIsi,
  iLt, iLe, iGt, iGe, isNon, truD, tagD, seqD, lstD, rdlD, mutD, putL, tupD, vsD, rng1X, rng2X, enuX, zipX, seqX,
  Option.bind, Option.map, Option.bind_some, Option.map_some,
  List.map_cons, List.map_nil, List.length_cons, List.length_nil, List.nil_append, List.cons_append, List.replicate, List.getElem?_cons_zero, List.getElem?_cons_succ, List.set_cons_zero, List.set_cons_succ, List.append_nil,
  if_true, if_false, ite_true, ite_false, Nat.reduceAdd, Int.reduceToNat, Int.reducePow, Nat.reducePow, Int.reduceMul, Int.reduceAdd, Int.reduceSub, Int.reduceLT, Int.reduceLE, Nat.reduceMul, Int.cast_ofNat_Int, Nat.reduceSub, Nat.reduceLT, Nat.reduceLeDiff, ne_eq, reduceCtorEq, not_false_eq_true, not_true_eq_false, Int.reduceEq, Int.reduceNeg, Bool.false_eq_true, Bool.not_true, Bool.not_false, decide_true, decide_false, true_and, and_true, false_and, and_false, or_true, true_or, or_false, false_or, id_eq, Bool.true_eq_false, decide_eq_true_eq, Bool.not_eq_true', decide_eq_false_iff_not, Bool.not_not, blsD, List.all_cons, List.all_nil, List.any_cons, List.any_nil, Bool.and_self, Bool.and_true, Bool.or_false, dFor, dLc, itL, wipeD, backD, isi_NoneType_bool, isi_NoneType_int, isi_NoneType_str, isi_NoneType_tuple, isi_NoneType_list, isi_NoneType_dict, isi_bool_bool, isi_bool_int, isi_bool_str, isi_bool_tuple, isi_bool_list, isi_bool_dict, isi_int_bool, isi_int_int, isi_int_str, isi_int_tuple, isi_int_list, isi_int_dict, isi_str_bool, isi_str_int, isi_str_str, isi_str_tuple, isi_str_list, isi_str_dict, isi_tuple_bool, isi_tuple_int, isi_tuple_str, isi_tuple_tuple, isi_tuple_list, isi_tuple_dict, isi_list_bool, isi_list_int, isi_list_str, isi_list_tuple, isi_list_list, isi_list_dict, isi_dict_bool, isi_dict_int, isi_dict_str, isi_dict_tuple, isi_dict_list, isi_dict_dict, e1, e2, e3, e4, a1, a2, m1, m2, d6, d7, d8, ht0, hb0, h0, f1, f2, f3, f4, f5, f6]
  · obtain ⟨f1, f2, f3, f4, f5⟩ := rest t b h0 ht hb
    have f6 := gr t b [] h0 ht hb
    refine ⟨.d (.v (.int c)), .d (.v (.int m)), .d (.v (.int t)), .d (.v (.int b)), ?_⟩
    simp only [flaw2b, runD, dD, dNil, dCons, dAnd, dOr, dNotT, dAndV, dOrV, dNotV, dIf, dTru, dCmpT, dSeq, dRet, dSet, dSetN, dIfS, dNx, dDrop, dOp, dNeg, dTup, dLst, dC, dK, dVar, okD, okN, frz, dCall, ofF, dAug, dPar, dApp, dChain, dListOf, dSlL, dRev,
  M.bind, M.pure, M.no, M.ne, dName, dUnit, dConsG, dTupG, gOr, gI, gS, gAdd, gSubI, gMul, gDiv, gMod, gPow, gIx, gLen, gAbs, gInt1, gSum, gAll, gAny, gMaxL, gMinL, gTupOf, g2I, gDm, gPart, gTru, gBool, gBoolO, gEq_pair, gEq_ints, gEq_sl1, gEq_sl2, opL, gEq_int, gEq_str, gEq_bl, gEq_non, gNone, gIn, gSign, gCat, gRep, gIsi,
  iLt, iLe, iGt, iGe, isNon, truD, tagD, seqD, lstD, rdlD, mutD, putL, tupD, vsD, rng1X, rng2X, enuX, zipX, seqX,
  Option.bind, Option.map, Option.bind_some, Option.map_some,
  List.map_cons, List.map_nil, List.length_cons, List.length_nil, List.nil_append, List.cons_append, List.replicate, List.getElem?_cons_zero, List.getElem?_cons_succ, List.set_cons_zero, List.set_cons_succ, List.append_nil,
  if_true, if_false, ite_true, ite_false, Nat.reduceAdd, Int.reduceToNat, Int.reducePow, Nat.reducePow, Int.reduceMul, Int.reduceAdd, Int.reduceSub, Int.reduceLT, Int.reduceLE, Nat.reduceMul, Int.cast_ofNat_Int, Nat.reduceSub, Nat.reduceLT, Nat.reduceLeDiff, ne_eq, reduceCtorEq, not_false_eq_true, not_true_eq_false, Int.reduceEq, Int.reduceNeg, Bool.false_eq_true, Bool.not_true, Bool.not_false, decide_true, decide_false, true_and, and_true, false_and, and_false, or_true, true_or, or_false, false_or, id_eq, Bool.true_eq_false, decide_eq_true_eq, Bool.not_eq_true', decide_eq_false_iff_not, Bool.not_not, blsD, List.all_cons, List.all_nil, List.any_cons, List.any_nil, Bool.and_self, Bool.and_true, Bool.or_false, dFor, dLc, itL, wipeD, backD, isi_NoneType_bool, isi_NoneType_int, isi_NoneType_str, isi_NoneType_tuple, isi_NoneType_list, isi_NoneType_dict, isi_bool_bool, isi_bool_int, isi_bool_str, isi_bool_tuple, isi_bool_list, isi_bool_dict, isi_int_bool, isi_int_int, isi_int_str, isi_int_tuple, isi_int_list, isi_int_dict, isi_str_bool, isi_str_int, isi_str_str, isi_str_tuple, isi_str_list, isi_str_dict, isi_tuple_bool, isi_tuple_int, isi_tuple_str, isi_tuple_tuple, isi_tuple_list, isi_tuple_dict, isi_list_bool, isi_list_int, isi_list_str, isi_list_tuple, isi_list_list, isi_list_dict, isi_dict_bool, isi_dict_int, isi_dict_str, isi_dict_tuple, isi_dict_list, isi_dict_dict, e1, e2, e3, e4, a1, m1, m2, d6, d7, d8, ht0, hb0, h0, f1, f2, f3, f4, f5, f6]
theorem loop1 (ns : List Int) : ∃ x1 x2 x3 x4 x5, itF (dName 1) flaw2b (rngD 0 4) ⟨[.d (scr ns), .no, .no, .no, .no, .no, .no, .no, .no, .no, .no], []⟩ = .ok .nx ⟨[.d (scr ns), x1, x2, x3, x4, x5, .no, .no, .no, .no, .no], []⟩ := by
  obtain ⟨c', e, x1, x2, x3, x4, x5, rfl⟩ := itF_inv (dg := dName 1) (db := flaw2b) (Inv := fun _ c => ∃ x1 x2 x3 x4 x5, c = ⟨[.d (scr ns), x1, x2, x3, x4, x5, .no, .no, .no, .no, .no], []⟩) (rngD 0 4) 0 ⟨[.d (scr ns), .no, .no, .no, .no, .no, .no, .no, .no, .no, .no], []⟩ ⟨_, _, _, _, _, rfl⟩ (fun j d c q hc => by
    obtain ⟨x1, x2, x3, x4, x5, rfl⟩ := hc
    unfold rngD at q
    rw [List.getElem?_map] at q
    obtain ⟨k, hk, rfl⟩ := Option.map_eq_some_iff.mp q
    have hk4 : k < 4 := List.mem_range.mp (List.mem_of_getElem? hk)
    obtain ⟨y2, y3, y4, y5, e⟩ := body1 ns k x1 x2 x3 x4 x5 hk4
    exact ⟨_, congrArg (fun z : Int => R.ok () (⟨[.d (scr ns), .d (.v (.int z)), x2, x3, x4, x5, .no, .no, .no, .no, .no], []⟩ : Stt)) (Int.zero_add _), .nx, _, e, .inl rfl, ⟨_, _, _, _, _, rfl⟩⟩)
  exact ⟨x1, x2, x3, x4, x5, e⟩
theorem body2 (ns : List Int) (k : Nat) (z : Int) (ms : List Int) (x3 x4 x5 x7 : Slot) (hk : k < 20) (hm : ms.length < 20) : ∃ y7 v, v.natAbs < 1000000000000000 ∧ flaw1b ⟨[.d (scr ns), .d (.v (.int (k : Nat))), .d (.v (.int z)), x3, x4, x5, .own (.lst (ms.map I)), x7, .no, .no, .no], []⟩ = .ok .nx ⟨[.d (scr ns), .d (.v (.int (k : Nat))), .d (.v (.int z)), x3, x4, x5, .own (.lst ((ms ++ [v]).map I)), y7, .no, .no, .no], []⟩ := by
  have e2 := gx z (20 + (k : Nat)) [] (by omega)
  generalize mixed z (20 + (k : Nat)) = c at e2
  have e3 := gn (c.fdiv 7) []
  have n3 := num_bd (c.fdiv 7)
  generalize num (c.fdiv 7) = t0 at e3 n3
  have d7 : divOk 7 := divOk_s (by decide) (by decide)
  have a1 : atI [D.v (V.int t0), D.v (V.int ((c.fdiv 7).fmod 30)), D.v (V.int 0)] (c.fmod 3) = some (.v (.int (([t0, (c.fdiv 7).fmod 30, 0] : List Int).getD (c.fmod 3).toNat 0))) := atI_fmod (f := I) (xs := [t0, (c.fdiv 7).fmod 30, 0]) rfl (by decide)
  have hz : (([t0, (c.fdiv 7).fmod 30, 0] : List Int).getD (c.fmod 3).toNat 0).natAbs < 1000000000000000 := by
    have b := fmod_bd (c := c) (m := 3) (by decide)
    have b2 := fmod_bd (c := c.fdiv 7) (m := 30) (by decide)
    have : (c.fmod 3).toNat = 0 ∨ (c.fmod 3).toNat = 1 ∨ (c.fmod 3).toNat = 2 := by omega
    rcases this with e | e | e <;> rw [e]
    · exact n3
    · show ((c.fdiv 7).fmod 30).natAbs < 1000000000000000
      omega
    · show (0 : Int).natAbs < 1000000000000000
      decide
  generalize ([t0, (c.fdiv 7).fmod 30, 0] : List Int).getD (c.fmod 3).toNat 0 = v at a1 hz
  have hl : (ms.map I).length < 1000000 := by rw [List.length_map]; omega
  refine ⟨.d (.v (.int c)), v, hz, ?_⟩
  rw [List.map_append]
  simp only [flaw1b, runD, dD, dNil, dCons, dAnd, dOr, dNotT, dAndV, dOrV, dNotV, dIf, dTru, dCmpT, dSeq, dRet, dSet, dSetN, dIfS, dNx, dDrop, dOp, dNeg, dTup, dLst, dC, dK, dVar, okD, okN, frz, dCall, ofF, dAug, dPar, dApp, dChain, dListOf, dSlL, dRev,
  M.bind, M.pure, M.no, M.ne, dName, dUnit, dConsG, dTupG, gOr, gI, gS, gAdd, gSubI, gMul, gDiv, gMod, gPow, gIx, gLen, gAbs, gInt1, gSum, gAll, gAny, gMaxL, gMinL, gTupOf, g2I, gDm, gPart, gTru, gBool, gBoolO, gEq_pair, gEq_ints, gEq_sl1, gEq_sl2, opL, gEq_int, gEq_str, gEq_bl, gEq_non, gNone, gIn, gSign, gCat, gRep, gIsi,
  iLt, iLe, iGt, iGe, isNon, truD, tagD, seqD, lstD, rdlD, mutD, putL, tupD, vsD, rng1X, rng2X, enuX, zipX, seqX,
  Option.bind, Option.map, Option.bind_some, Option.map_some,
  List.map_cons, List.map_nil, List.length_cons, List.length_nil, List.nil_append, List.cons_append, List.replicate, List.getElem?_cons_zero, List.getElem?_cons_succ, List.set_cons_zero, List.set_cons_succ, List.append_nil,
  if_true, if_false, ite_true, ite_false, Nat.reduceAdd, Int.reduceToNat, Int.reducePow, Nat.reducePow, Int.reduceMul, Int.reduceAdd, Int.reduceSub, Int.reduceLT, Int.reduceLE, Nat.reduceMul, Int.cast_ofNat_Int, Nat.reduceSub, Nat.reduceLT, Nat.reduceLeDiff, ne_eq, reduceCtorEq, not_false_eq_true, not_true_eq_false, Int.reduceEq, Int.reduceNeg, Bool.false_eq_true, Bool.not_true, Bool.not_false, decide_true, decide_false, true_and, and_true, false_and, and_false, or_true, true_or, or_false, false_or, id_eq, Bool.true_eq_false, decide_eq_true_eq, Bool.not_eq_true', decide_eq_false_iff_not, Bool.not_not, blsD, List.all_cons, List.all_nil, List.any_cons, List.any_nil, Bool.and_self, Bool.and_true, Bool.or_false, dFor, dLc, itL, wipeD, backD, isi_NoneType_bool, isi_NoneType_int, isi_NoneType_str, isi_NoneType_tuple, isi_NoneType_list, isi_NoneType_dict, isi_bool_bool, isi_bool_int, isi_bool_str, isi_bool_tuple, isi_bool_list, isi_bool_dict, isi_int_bool, isi_int_int, isi_int_str, isi_int_tuple, isi_int_list, isi_int_dict, isi_str_bool, isi_str_int, isi_str_str, isi_str_tuple, isi_str_list, isi_str_dict, isi_tuple_bool, isi_tuple_int, isi_tuple_str, isi_tuple_tuple, isi_tuple_list, isi_tuple_dict, isi_list_bool, isi_list_int, isi_list_str, isi_list_tuple, isi_list_list, isi_list_dict, isi_dict_bool, isi_dict_int, isi_dict_str, isi_dict_tuple, isi_dict_list, isi_dict_dict, e2, e3, d7, a1, hl]
theorem loop2 (ns es : List Int) (hes : es.length ≤ 12) (x1 x2 x3 x4 x5 : Slot) : ∃ (y1 y2 y7 : Slot) (ms : List Int), ms.length = es.length ∧ (∀ m ∈ ms, m.natAbs < 1000000000000000) ∧ itF (dTupG 2 (dConsG (dName 1) (dConsG (dName 2) dUnit))) flaw1b (enuD (es.map I)) ⟨[.d (scr ns), x1, x2, x3, x4, x5, .own (.lst []), .no, .no, .no, .no], []⟩ = .ok .nx ⟨[.d (scr ns), y1, y2, x3, x4, x5, .own (.lst (ms.map I)), y7, .no, .no, .no], []⟩ := by
  rw [enuD_map I es 0]
  obtain ⟨c', e, y1, y2, y7, ms, h1, h2, rfl⟩ := itF_inv (dg := dTupG 2 (dConsG (dName 1) (dConsG (dName 2) dUnit))) (db := flaw1b) (Inv := fun j c => ∃ (y1 y2 y7 : Slot) (ms : List Int), ms.length = j ∧ (∀ m ∈ ms, m.natAbs < 1000000000000000) ∧ c = ⟨[.d (scr ns), y1, y2, x3, x4, x5, .own (.lst (ms.map I)), y7, .no, .no, .no], []⟩) ((List.range es.length).map fun k => .tup [.v (.int (k : Nat)), I (es.getD k 0)]) 0 ⟨[.d (scr ns), x1, x2, x3, x4, x5, .own (.lst []), .no, .no, .no, .no], []⟩ ⟨_, _, _, [], rfl, by simp, rfl⟩ (fun j d c q hc => by
    obtain ⟨y1, y2, y7, ms, h1, h2, rfl⟩ := hc
    rw [List.getElem?_map] at q
    obtain ⟨k, hk, rfl⟩ := Option.map_eq_some_iff.mp q
    have hk4 : k < es.length := List.mem_range.mp (List.mem_of_getElem? hk)
    have hj : j < es.length := by
      have := (List.getElem?_eq_some_iff.mp hk).1
      simpa using this
    obtain ⟨y, v, hv, e⟩ := body2 ns k (es.getD k 0) ms x3 x4 x5 y7 (by omega) (by omega)
    refine ⟨⟨[.d (scr ns), .d (.v (.int (k : Nat))), .d (.v (.int (es.getD k 0))), x3, x4, x5, .own (.lst (ms.map I)), y7, .no, .no, .no], []⟩, ?_, .nx, _, e, .inl rfl, ⟨_, _, _, _, ?_, ?_, rfl⟩⟩
    · rfl
    · simp [h1]
    · intro m hm
      rcases List.mem_append.mp hm with h | h
      · exact h2 m h
      · simp at h
        rw [h]
        exact hv)
  refine ⟨y1, y2, y7, ms, ?_, h2, e⟩
  simpa using h1
theorem sum_bd : ∀ (ms : List Int) (b : Nat), (∀ m ∈ ms, m.natAbs < b) → ms.sum.natAbs ≤ ms.length * b
  | [], b, _ => by simp
  | m :: ms, b, h => by
    have h1 := sum_bd ms b fun x hx => h x (List.mem_cons_of_mem _ hx)
    have h2 := h m List.mem_cons_self
    rw [List.sum_cons, List.length_cons, Nat.add_mul]
    omega
theorem sum_succ : ∀ ms : List Int, (ms.map fun m => m + 1).sum = ms.sum + ms.length
  | [] => rfl
  | m :: ms => by
    rw [List.map_cons, List.sum_cons, sum_succ ms, List.sum_cons, List.length_cons]
    omega
theorem loop3 (ms : List Int) (hm : ms.length ≤ 12) (r0 : List Slot) (x0 x1 x2 x3 x4 x5 x6 x7 x8 x9 : Slot) : itL (dName 10) (M.pure true) claw1e [10] r0 (ms.map I) [] ⟨[x0, x1, x2, x3, x4, x5, x6, x7, x8, x9, .no], []⟩ = .ok ((ms.map fun m => m + 1).map I) ⟨[x0, x1, x2, x3, x4, x5, x6, x7, x8, x9, .no], []⟩ := by
  rw [itL_map (w := [x0, x1, x2, x3, x4, x5, x6, x7, x8, x9, .no]) (S := []) (p := fun _ => true) (f := fun d => match d with | .v (.int i) => I (i + 1) | _ => d) (ms.map I) [] _ rfl rfl (by simp; omega) (fun d hd => by
    obtain ⟨z, _, rfl⟩ := List.mem_map.mp hd
    refine ⟨_, rfl, _, rfl, rfl, rfl, fun _ => ?_⟩
    exact ⟨⟨[x0, x1, x2, x3, x4, x5, x6, x7, x8, x9, .d (I z)], []⟩, by simp only [claw1e, runD, dD, dNil, dCons, dAnd, dOr, dNotT, dAndV, dOrV, dNotV, dIf, dTru, dCmpT, dSeq, dRet, dSet, dSetN, dIfS, dNx, dDrop, dOp, dNeg, dTup, dLst, dC, dK, dVar, okD, okN, frz, dCall, ofF, dAug, dPar, dApp, dChain, dListOf, dSlL, dRev,
  M.bind, M.pure, M.no, M.ne, dName, dUnit, dConsG, dTupG, gOr, gI, gS, gAdd, gSubI, gMul, gDiv, gMod, gPow, gIx, gLen, gAbs, gInt1, gSum, gAll, gAny, gMaxL, gMinL, gTupOf, g2I, gDm, gPart, gTru, gBool, gBoolO, gEq_pair, gEq_ints, gEq_sl1, gEq_sl2, opL, gEq_int, gEq_str, gEq_bl, gEq_non, gNone, gIn, gSign, gCat, gRep, gIsi,
  iLt, iLe, iGt, iGe, isNon, truD, tagD, seqD, lstD, rdlD, mutD, putL, tupD, vsD, rng1X, rng2X, enuX, zipX, seqX,
  Option.bind, Option.map, Option.bind_some, Option.map_some,
  List.map_cons, List.map_nil, List.length_cons, List.length_nil, List.nil_append, List.cons_append, List.replicate, List.getElem?_cons_zero, List.getElem?_cons_succ, List.set_cons_zero, List.set_cons_succ, List.append_nil,
  if_true, if_false, ite_true, ite_false, Nat.reduceAdd, Int.reduceToNat, Int.reducePow, Nat.reducePow, Int.reduceMul, Int.reduceAdd, Int.reduceSub, Int.reduceLT, Int.reduceLE, Nat.reduceMul, Int.cast_ofNat_Int, Nat.reduceSub, Nat.reduceLT, Nat.reduceLeDiff, ne_eq, reduceCtorEq, not_false_eq_true, not_true_eq_false, Int.reduceEq, Int.reduceNeg, Bool.false_eq_true, Bool.not_true, Bool.not_false, decide_true, decide_false, true_and, and_true, false_and, and_false, or_true, true_or, or_false, false_or, id_eq, Bool.true_eq_false, decide_eq_true_eq, Bool.not_eq_true', decide_eq_false_iff_not, Bool.not_not, blsD, List.all_cons, List.all_nil, List.any_cons, List.any_nil, Bool.and_self, Bool.and_true, Bool.or_false, dFor, dLc, itL, wipeD, backD, isi_NoneType_bool, isi_NoneType_int, isi_NoneType_str, isi_NoneType_tuple, isi_NoneType_list, isi_NoneType_dict, isi_bool_bool, isi_bool_int, isi_bool_str, isi_bool_tuple, isi_bool_list, isi_bool_dict, isi_int_bool, isi_int_int, isi_int_str, isi_int_tuple, isi_int_list, isi_int_dict, isi_str_bool, isi_str_int, isi_str_str, isi_str_tuple, isi_str_list, isi_str_dict, isi_tuple_bool, isi_tuple_int, isi_tuple_str, isi_tuple_tuple, isi_tuple_list, isi_tuple_dict, isi_list_bool, isi_list_int, isi_list_str, isi_list_tuple, isi_list_list, isi_list_dict, isi_dict_bool, isi_dict_int, isi_dict_str, isi_dict_tuple, isi_dict_list, isi_dict_dict], rfl, rfl⟩)]
  rw [List.filter_eq_self.mpr (fun _ _ => rfl), List.nil_append, List.map_map, List.map_map]
  rfl
theorem law_true (ns : List Int) (h : ns.length ≤ 63) : runD 11 1 den_law [scr ns] [] = .ok (.v (.bl true)) [] := by
  obtain ⟨x1, x2, x3, x4, x5, L1⟩ := loop1 ns
  have e1 := gc ns 4 [] (by decide)
  have hs : cutL (ns.map I) (some 5) (some 16) = (cutL ns (some 5) (some 16)).map I := cutL_map I ns _ _
  have hcl : (cutL ns (some 5) (some 16)).length ≤ 11 := by
    unfold cutL
    rw [List.length_take]
    have q1 : HT.sIx ns.length 0 (some 5) = min 5 ns.length := HT.sIx_nat _ _ 5
    have q2 : HT.sIx ns.length ns.length (some 16) = min 16 ns.length := HT.sIx_nat _ _ 16
    rw [q1, q2]
    omega
  generalize cutL ns (some 5) (some 16) = cs at hs hcl
  generalize ns.getD (4 : Int).toNat 0 = z at e1
  obtain ⟨y1, y2, y7, ms, h1, h2, L2⟩ := loop2 ns (z :: cs) (by simp; omega) x1 x2 x3 x4 x5
  rw [List.map_cons] at L2
  have hl : ms.length = cs.length + 1 := by simpa using h1
  have h0 : ms ≠ [] := fun e => by simp [e] at hl
  have hsum := sum_bd ms _ h2
  have hsz : ms.sum.natAbs < 2 ^ 100 := by
    have : ms.length * 1000000000000000 ≤ 12 * 1000000000000000 := Nat.mul_le_mul_right _ (by omega)
    omega
  have M1 : g_mean [.lst (ms.map I)] [] = .ok (.tup [.v (.int (frac ms.sum ms.length).1), .v (.int (frac ms.sum ms.length).2)]) [] := gm ms [] h0 (by omega) (by omega)
  have R1 := gr ms.sum ms.length [] (by omega) (by omega) (by omega)
  have M2 : g_mean [.lst (ms.map I).reverse] [] = .ok (.tup [.v (.int (frac ms.sum ms.length).1), .v (.int (frac ms.sum ms.length).2)]) [] := by
    rw [← List.map_reverse]
    have := gm ms.reverse [] (by simpa using h0) (by rw [List.length_reverse]; omega) (by rw [List.sum_reverse]; omega)
    rw [List.sum_reverse, List.length_reverse] at this
    exact this
  have M3 : g_mean [.lst (ms.map I ++ ms.map I)] [] = .ok (.tup [.v (.int (frac ms.sum ms.length).1), .v (.int (frac ms.sum ms.length).2)]) [] := by
    rw [← List.map_append]
    have := gm (ms ++ ms) [] (by simpa using h0) (by rw [List.length_append]; omega) (by rw [List.sum_append]; omega)
    rw [List.sum_append, List.length_append, frac_eq (t := ms.sum + ms.sum) (b := ((ms.length + ms.length : Nat) : Int)) (t2 := ms.sum) (b2 := ms.length) (by omega) (by omega) (by rw [Int.natCast_add, Int.mul_add, Int.add_mul])] at this
    exact this
  have M4 : g_mean [.lst ((ms.map fun m => m + 1).map I)] [] = .ok (.tup [.v (.int (frac (ms.sum + ms.length) ms.length).1), .v (.int (frac (ms.sum + ms.length) ms.length).2)]) [] := by
    have := gm (ms.map fun m => m + 1) [] (by simpa using h0) (by rw [List.length_map]; omega) (by rw [sum_succ]; omega)
    rw [sum_succ, List.length_map] at this
    exact this
  have R2 := gr (ms.sum + ms.length) ms.length [] (by omega) (by omega) (by omega)
  have L3 := loop3 ms (by omega)
  have c1 : ms.length + ms.length ≤ 1000000 := by omega
  have c2 : 1 + cs.length ≤ 1000000 := by omega
  rw [show scr ns = D.scr (ns.map I) from rfl] at L1 L2 e1 ⊢
  simp only [den_law, runD, dD, dNil, dCons, dAnd, dOr, dNotT, dAndV, dOrV, dNotV, dIf, dTru, dCmpT, dSeq, dRet, dSet, dSetN, dIfS, dNx, dDrop, dOp, dNeg, dTup, dLst, dC, dK, dVar, okD, okN, frz, dCall, ofF, dAug, dPar, dApp, dChain, dListOf, dSlL, dRev,
  M.bind, M.pure, M.no, M.ne, dName, dUnit, dConsG, dTupG, gOr, gI, gS, gAdd, gSubI, gMul, gDiv, gMod, gPow, gIx, gLen, gAbs, gInt1, gSum, gAll, gAny, gMaxL, gMinL, gTupOf, g2I, gDm, gPart, gTru, gBool, gBoolO, gEq_pair, gEq_ints, gEq_sl1, gEq_sl2, opL, gEq_int, gEq_str, gEq_bl, gEq_non, gNone, gIn, gSign, gCat, gRep, gIsi,
  iLt, iLe, iGt, iGe, isNon, truD, tagD, seqD, lstD, rdlD, mutD, putL, tupD, vsD, rng1X, rng2X, enuX, zipX, seqX,
  Option.bind, Option.map, Option.bind_some, Option.map_some,
  List.map_cons, List.map_nil, List.length_cons, List.length_nil, List.nil_append, List.cons_append, List.replicate, List.getElem?_cons_zero, List.getElem?_cons_succ, List.set_cons_zero, List.set_cons_succ, List.append_nil,
  if_true, if_false, ite_true, ite_false, Nat.reduceAdd, Int.reduceToNat, Int.reducePow, Nat.reducePow, Int.reduceMul, Int.reduceAdd, Int.reduceSub, Int.reduceLT, Int.reduceLE, Nat.reduceMul, Int.cast_ofNat_Int, Nat.reduceSub, Nat.reduceLT, Nat.reduceLeDiff, ne_eq, reduceCtorEq, not_false_eq_true, not_true_eq_false, Int.reduceEq, Int.reduceNeg, Bool.false_eq_true, Bool.not_true, Bool.not_false, decide_true, decide_false, true_and, and_true, false_and, and_false, or_true, true_or, or_false, false_or, id_eq, Bool.true_eq_false, decide_eq_true_eq, Bool.not_eq_true', decide_eq_false_iff_not, Bool.not_not, blsD, List.all_cons, List.all_nil, List.any_cons, List.any_nil, Bool.and_self, Bool.and_true, Bool.or_false, dFor, dLc, itL, wipeD, backD, isi_NoneType_bool, isi_NoneType_int, isi_NoneType_str, isi_NoneType_tuple, isi_NoneType_list, isi_NoneType_dict, isi_bool_bool, isi_bool_int, isi_bool_str, isi_bool_tuple, isi_bool_list, isi_bool_dict, isi_int_bool, isi_int_int, isi_int_str, isi_int_tuple, isi_int_list, isi_int_dict, isi_str_bool, isi_str_int, isi_str_str, isi_str_tuple, isi_str_list, isi_str_dict, isi_tuple_bool, isi_tuple_int, isi_tuple_str, isi_tuple_tuple, isi_tuple_list, isi_tuple_dict, isi_list_bool, isi_list_int, isi_list_str, isi_list_tuple, isi_list_list, isi_list_dict, isi_dict_bool, isi_dict_int, isi_dict_str, isi_dict_tuple, isi_dict_list, isi_dict_dict, L1, e1, hs, L2, L3, c1, c2, M1, M2, M3, M4, R1, R2, intsD_map, List.length_map]
end
theorem all_ok {P : Program} {w : World} {K : PySem.W.Frag} {mg : Str → Option Value} (T : Tx K mg) : ∃ f fd, mg "law" = some (.ref f) ∧ (∀ us : List Value, us.length = 1 → bindArgs fd ⟨us, []⟩ = pure ((["_law_script"] : List Str).zip us)) ∧ ∀ base : Heap, K.In base → base.Ns mainGlobals mg → FnOk P w K mg base (L2.CX P w) 4 f fd ["_law_script"] (spG K (runD 11 1 den_law)) := by
  obtain ⟨f, fd, F, hm, hb⟩ := T.d_law
  refine ⟨f, fd, hm, hb, fun base _ _ => ?_⟩
  have h_shared := ok_shared (P := P) (w := w) (base := base) T 
  have h_shown_fraction := ok_shown_fraction (P := P) (w := w) (base := base) T 
  have h_law_cell_at := ok_law_cell_at (P := P) (w := w) (base := base) T 
  have h_law_mixed := ok_law_mixed (P := P) (w := w) (base := base) T 
  have h_law_parts := ok_law_parts (P := P) (w := w) (base := base) T 
  have h_law_common := ok_law_common (P := P) (w := w) (base := base) T 
  have h_law_text := ok_law_text (P := P) (w := w) (base := base) T 
  have h_fraction := ok_fraction (P := P) (w := w) (base := base) T h_shared
  have h_law_number := ok_law_number (P := P) (w := w) (base := base) T h_law_mixed
  have h_law_right := ok_law_right (P := P) (w := w) (base := base) T h_law_common h_law_parts h_law_text h_shown_fraction
  have h_mean := ok_mean (P := P) (w := w) (base := base) T h_fraction
  exact raw_law T h_law_cell_at h_law_mixed h_law_number h_law_right h_fraction h_mean F
end Law
open PySem PySem.W PyProof.Rows
set_option maxRecDepth 100000 in
set_option maxHeartbeats 0 in
theorem PySem.Challenge.cw_hallclock_k41_fractions_and_means_holds : PySem.Challenge.rw_hallclock_k41_fractions_and_means.Holds := by
  w_on; o_law; k_head; (case hw => w_witness2)
  k_fill
  refine L2.walk_of (l := PySem.Challenge.rw_hallclock_k41_fractions_and_means) (n := 63) (k := 4) (x := "_law_script") (CX := fun w => L2.CX (PySem.Challenge.rw_hallclock_k41_fractions_and_means).prog w) (sp := fun w => My.spG _ (My.runD 11 1 Law.den_law)) rfl (by decide) rfl ⟨rfl, by decide, by decide⟩ (fun w h Y => PySem.W.kIn_of Y) ?F (fun _ _ a ns hl _ hS => My.law_end hS (Law.law_true ns hl)) (fun w H s e s' h => My.cx_end _ w H s e s' h)
  case F =>
    intro w mg fa h KX G hmg
    refine' My.law_ok hmg (Law.all_ok { d_shared := My.has_of KX G (fun _ _ _ _ _ _ us hl => match us, hl with | [_, _], _ => rfl) ?ashared ?lshared ?cshared ?kshared, d_shown_fraction := My.has_of KX G (fun _ _ _ _ _ _ us hl => match us, hl with | [_], _ => rfl) ?ashown_fraction ?lshown_fraction ?cshown_fraction ?kshown_fraction, d_law_cell_at := My.has_of KX G (fun _ _ _ _ _ _ us hl => match us, hl with | [_, _], _ => rfl) ?alaw_cell_at ?llaw_cell_at ?claw_cell_at ?klaw_cell_at, d_law_mixed := My.has_of KX G (fun _ _ _ _ _ _ us hl => match us, hl with | [_, _], _ => rfl) ?alaw_mixed ?llaw_mixed ?claw_mixed ?klaw_mixed, d_law_parts := My.has_of KX G (fun _ _ _ _ _ _ us hl => match us, hl with | [_, _], _ => rfl) ?alaw_parts ?llaw_parts ?claw_parts ?klaw_parts, d_law_common := My.has_of KX G (fun _ _ _ _ _ _ us hl => match us, hl with | [_, _], _ => rfl) ?alaw_common ?llaw_common ?claw_common ?klaw_common, d_law_text := My.has_of KX G (fun _ _ _ _ _ _ us hl => match us, hl with | [_], _ => rfl) ?alaw_text ?llaw_text ?claw_text ?klaw_text, d_fraction := My.has_of KX G (fun _ _ _ _ _ _ us hl => match us, hl with | [_, _], _ => rfl) ?afraction ?lfraction ?cfraction ?kfraction, d_law_number := My.has_of KX G (fun _ _ _ _ _ _ us hl => match us, hl with | [_], _ => rfl) ?alaw_number ?llaw_number ?claw_number ?klaw_number, d_law_right := My.has_of KX G (fun _ _ _ _ _ _ us hl => match us, hl with | [_, _, _], _ => rfl) ?alaw_right ?llaw_right ?claw_right ?klaw_right, d_mean := My.has_of KX G (fun _ _ _ _ _ _ us hl => match us, hl with | [_], _ => rfl) ?amean ?lmean ?cmean ?kmean, d_law := My.has_of KX G (fun _ _ _ _ _ _ us hl => match us, hl with | [_], _ => rfl) ?alaw ?llaw ?claw ?klaw, n_abs := PySem.W.mg_none_of KX G ?nabs, n_all := PySem.W.mg_none_of KX G ?nall, n_bool := PySem.W.mg_none_of KX G ?nbool, n_divmod := PySem.W.mg_none_of KX G ?ndivmod, n_enumerate := PySem.W.mg_none_of KX G ?nenumerate, n_int := PySem.W.mg_none_of KX G ?nint, n_isinstance := PySem.W.mg_none_of KX G ?nisinstance, n_len := PySem.W.mg_none_of KX G ?nlen, n_list := PySem.W.mg_none_of KX G ?nlist, n_range := PySem.W.mg_none_of KX G ?nrange, n_str := PySem.W.mg_none_of KX G ?nstr, n_sum := PySem.W.mg_none_of KX G ?nsum, n_tuple := PySem.W.mg_none_of KX G ?ntuple })
    (case ashared => k_is); (case lshared => k_is); (case cshared => k_is); (case kshared => k_is)
    (case ashown_fraction => k_is); (case lshown_fraction => k_is); (case cshown_fraction => k_is); (case kshown_fraction => k_is)
    (case alaw_cell_at => k_is); (case llaw_cell_at => k_is); (case claw_cell_at => k_is); (case klaw_cell_at => k_is)
    (case alaw_mixed => k_is); (case llaw_mixed => k_is); (case claw_mixed => k_is); (case klaw_mixed => k_is)
    (case alaw_parts => k_is); (case llaw_parts => k_is); (case claw_parts => k_is); (case klaw_parts => k_is)
    (case alaw_common => k_is); (case llaw_common => k_is); (case claw_common => k_is); (case klaw_common => k_is)
    (case alaw_text => k_is); (case llaw_text => k_is); (case claw_text => k_is); (case klaw_text => k_is)
    (case afraction => k_is); (case lfraction => k_is); (case cfraction => k_is); (case kfraction => k_is)
    (case alaw_number => k_is); (case llaw_number => k_is); (case claw_number => k_is); (case klaw_number => k_is)
    (case alaw_right => k_is); (case llaw_right => k_is); (case claw_right => k_is); (case klaw_right => k_is)
    (case amean => k_is); (case lmean => k_is); (case cmean => k_is); (case kmean => k_is)
    (case alaw => k_is); (case llaw => k_is); (case claw => k_is); (case klaw => k_is)
    (case nabs => k_is)
    (case nall => k_is)
    (case nbool => k_is)
    (case ndivmod => k_is)
    (case nenumerate => k_is)
    (case nint => k_is)
    (case nisinstance => k_is)
    (case nlen => k_is)
    (case nlist => k_is)
    (case nrange => k_is)
    (case nstr => k_is)
    (case nsum => k_is)
    (case ntuple => k_is)
