import PyProof.Rows.All
import Wide.All
import OpenK.AllK
import Wide.FinOn
import HandS.ForMost
import HandS.ForExc
import HandS.Wide
import HandS.ExcOwn
import HandS.IsInst
import KE.DataEq
import KE.Datum
import HandS.Style
import KE.DataMinMax
import KE.DataFind
import KE.DatumOrd
import KE.DataCmp
import HandS.Iter
import HandS.Text
import HandS.TupAny
import HandS.NoneIn
import HandS.Dict
import HandS.ClsMeth
import PyProof.ReprLen
import HandS.Lambda
import HandS.Ends
import PyProof.ReprRoads
import PySem.Challenge.RW_hallclock_k13_turns_of_comings
set_option Elab.async false
set_option linter.all false
set_option maxRecDepth 100000
set_option maxHeartbeats 4000000
/-! F1: data, cells, the relation between a def's running state and its plain image. -/
namespace My
open PySem L2

/-- plain data -/
inductive D where
  | v (x : V)
  | tup (ds : List D)
  | lst (ds : List D)
  | scr (ds : List D)
  | dct (kvs : List (Key × D))
  | ins (C : Addr) (fs : List (Str × D))
  | loc (n : Nat)
  | exn (a : Addr) (od : Option Addr) (cls : Value) (fld : Option (Str × D))
/-- what an owned object holds -/
inductive Cell where
  | lst (ds : List D)
  | dct (kvs : List (Key × D))
  | ins (C : Addr) (fs : List (Str × D))
  | lck (kvs : List (Key × D))
  | gone
/-- nobody else's -/
def Cell.live : Cell → Prop
  | .gone => False
  | .lck _ => False
  | _ => True
/-- a dict while a loop walks it -/
def Cell.lk : Cell → Prop
  | .lck _ => True
  | _ => False
inductive Slot where
  | no
  | d (x : D)
  | own (m : Cell)
structure Stt where
  r : List Slot
  S : List Cell
/-- an exception: its class, its one field -/
structure Exn where
  cls : Value
  fld : Option (Str × D)
inductive R (α : Type) where
  | ok (a : α) (c : Stt)
  | ex (e : Exn) (c : Stt)
  | no
abbrev M (α : Type) := Stt → R α

mutual
inductive Rep (K : PySem.W.Frag) (F : Hp) (μ : List Addr) : V → D → Prop
  | v (x : V) : Rep K F μ x (.v x)
  | tup {a : Addr} {vs : List V} {ds : List D} : SqT K F a vs → Reps K F μ vs ds → Rep K F μ (.ref a) (.tup ds)
  | lst {a : Addr} {vs : List V} {ds : List D} : F a = some (.lst vs) → Reps K F μ vs ds → Rep K F μ (.ref a) (.lst ds)
  | scr {a : Addr} {vs : List V} {ds : List D} : SqL K F a vs → Reps K F μ vs ds → Rep K F μ (.ref a) (.scr ds)
  | dct {a : Addr} {kvs : List (Key × V)} {ds : List (Key × D)} : F a = some (.dK kvs) → kvs.map (·.1) = ds.map (·.1) → Reps K F μ (kvs.map (·.2)) (ds.map (·.2)) → Rep K F μ (.ref a) (.dct ds)
  | ins {a C dx : Addr} {fs : List (Str × V)} {ds : List (Str × D)} : F a = some (.ins C dx fs) → fs.map (·.1) = ds.map (·.1) → Reps K F μ (fs.map (·.2)) (ds.map (·.2)) → Rep K F μ (.ref a) (.ins C ds)
  | loc {n : Nat} {a : Addr} : μ[n]? = some a → Rep K F μ (.ref a) (.loc n)
  | exn0 {a : Addr} {cls : Value} : Rep K F μ (.ref a) (.exn a none cls none)
  | exn1 {a d : Addr} {cls : Value} {f : Str} {v : V} {x : D} : F d = some (.xd [(f, v)]) → Rep K F μ v x → Rep K F μ (.ref a) (.exn a (some d) cls (some (f, x)))
inductive Reps (K : PySem.W.Frag) (F : Hp) (μ : List Addr) : List V → List D → Prop
  | nil : Reps K F μ [] []
  | cons {v : V} {d : D} {vs : List V} {ds : List D} : Rep K F μ v d → Reps K F μ vs ds → Reps K F μ (v :: vs) (d :: ds)
end

/-- the world has grown -/
structure Le (F : Hp) (μ : List Addr) (F' : Hp) (μ' : List Addr) : Prop where
  ex : Same F F'
  mu : ∀ (n : Nat) (a : Addr), μ[n]? = some a → μ'[n]? = some a
theorem Le.refl (F : Hp) (μ : List Addr) : Le F μ F μ := ⟨Same.refl F, fun _ _ h => h⟩
theorem Le.trans {F F1 F2 : Hp} {μ μ1 μ2 : List Addr} (a : Le F μ F1 μ1) (b : Le F1 μ1 F2 μ2) : Le F μ F2 μ2 := ⟨a.ex.trans b.ex, fun n x h => b.mu n x (a.mu n x h)⟩
theorem Same.seqT {K : PySem.W.Frag} {H H' : Hp} {a : Addr} {xs : List V} (e : Same H H') (h : SqT K H a xs) : SqT K H' a xs := by
  rcases h with (h | ⟨o, h⟩) | h
  · exact .inl (.inl (e _ _ h))
  · exact .inl (.inr ⟨o, e _ _ h⟩)
  · exact .inr h
theorem same_new {H : Hp} {p : Addr} {o : HO} (h : H p = none) : Same H (upd H p o) := fun b x e => by
  rw [upd_ne (ne_of_none e h)]
  exact e
section
variable {K : PySem.W.Frag} {F F' : Hp} {μ μ' : List Addr}
mutual
theorem Rep.mono (le : Le F μ F' μ') : ∀ {v : V} {d : D}, Rep K F μ v d → Rep K F' μ' v d
  | _, _, .v x => .v x
  | _, _, .tup h r => .tup (Same.seqT le.ex h) (Reps.mono le r)
  | _, _, .lst h r => .lst (le.ex _ _ h) (Reps.mono le r)
  | _, _, .scr h r => .scr (le.ex.seq h) (Reps.mono le r)
  | _, _, .dct h k r => .dct (le.ex _ _ h) k (Reps.mono le r)
  | _, _, .ins h k r => .ins (le.ex _ _ h) k (Reps.mono le r)
  | _, _, .loc h => .loc (le.mu _ _ h)
  | _, _, .exn0 => .exn0
  | _, _, .exn1 h r => .exn1 (le.ex _ _ h) (Rep.mono le r)
theorem Reps.mono (le : Le F μ F' μ') : ∀ {vs : List V} {ds : List D}, Reps K F μ vs ds → Reps K F' μ' vs ds
  | _, _, .nil => .nil
  | _, _, .cons h r => .cons (Rep.mono le h) (Reps.mono le r)
end
theorem Reps.length : ∀ {vs : List V} {ds : List D}, Reps K F μ vs ds → vs.length = ds.length
  | _, _, .nil => rfl
  | _, _, .cons _ r => congrArg (· + 1) (Reps.length r)
theorem Reps.append : ∀ {vs ws : List V} {ds es : List D}, Reps K F μ vs ds → Reps K F μ ws es → Reps K F μ (vs ++ ws) (ds ++ es)
  | _, _, _, _, .nil, s => s
  | _, _, _, _, .cons h r, s => .cons h (Reps.append r s)
theorem Reps.get : ∀ {vs : List V} {ds : List D} {i : Nat} {d : D}, Reps K F μ vs ds → ds[i]? = some d → ∃ v, vs[i]? = some v ∧ Rep K F μ v d
  | _, _, _, _, .nil, e => by simp at e
  | _, _, 0, _, .cons h _, e => by simp at e; subst e; exact ⟨_, rfl, h⟩
  | _, _, i + 1, d, .cons _ r, e => by
    obtain ⟨v, h1, h2⟩ := Reps.get (i := i) (d := d) r (by simpa using e)
    exact ⟨v, by simpa using h1, h2⟩
theorem Reps.getV {vs : List V} {ds : List D} {i : Nat} {v : V} (h : Reps K F μ vs ds) (e : vs[i]? = some v) : ∃ d, ds[i]? = some d ∧ Rep K F μ v d := by
  have hi := (List.getElem?_eq_some_iff.mp e).1
  have hj : i < ds.length := by rw [← h.length]; exact hi
  obtain ⟨w, h1, h2⟩ := h.get (List.getElem?_eq_getElem hj)
  rw [e] at h1
  cases h1
  exact ⟨_, List.getElem?_eq_getElem hj, h2⟩
theorem Reps.take : ∀ {vs : List V} {ds : List D} (n : Nat), Reps K F μ vs ds → Reps K F μ (vs.take n) (ds.take n)
  | _, _, 0, _ => .nil
  | _, _, _ + 1, .nil => .nil
  | _, _, n + 1, .cons h r => .cons h (Reps.take n r)
theorem Reps.drop : ∀ {vs : List V} {ds : List D} (n : Nat), Reps K F μ vs ds → Reps K F μ (vs.drop n) (ds.drop n)
  | _, _, 0, r => r
  | _, _, _ + 1, .nil => .nil
  | _, _, n + 1, .cons _ r => Reps.drop n r
theorem Reps.set {v : V} {d : D} (h : Rep K F μ v d) : ∀ {vs : List V} {ds : List D} (i : Nat), Reps K F μ vs ds → Reps K F μ (vs.set i v) (ds.set i d)
  | _, _, _, .nil => .nil
  | _, _, 0, .cons _ t => .cons h t
  | _, _, i + 1, .cons q t => .cons q (Reps.set h i t)
theorem Reps.snoc {vs : List V} {ds : List D} {v : V} {d : D} (r : Reps K F μ vs ds) (h : Rep K F μ v d) : Reps K F μ (vs ++ [v]) (ds ++ [d]) := r.append (.cons h .nil)
theorem Reps.dropLast {vs : List V} {ds : List D} (h : Reps K F μ vs ds) : Reps K F μ vs.dropLast ds.dropLast := by
  rw [List.dropLast_eq_take, List.dropLast_eq_take, h.length]
  exact h.take _
theorem Reps.map_v : ∀ (xs : List V), Reps K F μ xs (xs.map .v)
  | [] => .nil
  | x :: xs => .cons (.v x) (Reps.map_v xs)
theorem Reps.of_v : ∀ {vs xs : List V}, Reps K F μ vs (xs.map D.v) → vs = xs
  | vs, [], h => by cases h; rfl
  | vs, x :: xs, h => by
    cases h with
    | cons a r =>
      cases a
      rw [Reps.of_v r]
theorem Reps.rep {vs : List V} {ds : List D} (h : Reps K F μ vs ds) : ∀ k : Nat, Reps K F μ (List.replicate k vs).flatten (List.replicate k ds).flatten
  | 0 => .nil
  | k + 1 => by
    rw [List.replicate_succ, List.replicate_succ, List.flatten_cons, List.flatten_cons]
    exact h.append (Reps.rep h k)
end

theorem lkE {m : Cell} (h : m.live) (g : m.lk) : False := by
  cases m <;> first | exact h | exact g
/-- an owned object's content -/
inductive CellO (K : PySem.W.Frag) (F : Hp) (μ : List Addr) : HO → Cell → Prop
  | lst {vs : List V} {ds : List D} : Reps K F μ vs ds → CellO K F μ (.lst vs) (.lst ds)
  | dct {kvs : List (Key × V)} {ds : List (Key × D)} : kvs.map (·.1) = ds.map (·.1) → Reps K F μ (kvs.map (·.2)) (ds.map (·.2)) → CellO K F μ (.dK kvs) (.dct ds)
  | ins {C dx : Addr} {fs : List (Str × V)} {ds : List (Str × D)} : fs.map (·.1) = ds.map (·.1) → Reps K F μ (fs.map (·.2)) (ds.map (·.2)) → CellO K F μ (.ins C dx fs) (.ins C ds)
  | lck {ob : Obj} {kvs : List (Key × V)} {ds : List (Key × D)} : kvs.map (·.1) = ds.map (·.1) → Reps K F μ (kvs.map (·.2)) (ds.map (·.2)) → CellO K F μ (.frz ob (.dK kvs)) (.lck ds)
  | gone {o : HO} : CellO K F μ o .gone
theorem CellO.mono {K : PySem.W.Frag} {F F' : Hp} {μ μ' : List Addr} {o : HO} {m : Cell} (le : Le F μ F' μ') (h : CellO K F μ o m) : CellO K F' μ' o m := by
  cases h with
  | lst r => exact .lst (r.mono le)
  | dct k r => exact .dct k (r.mono le)
  | ins k r => exact .ins k (r.mono le)
  | lck k r => exact .lck k (r.mono le)
  | gone => exact .gone

structure CellAt (K : PySem.W.Frag) (Z F : Hp) (μ : List Addr) (H : Hp) (a : Addr) (m : Cell) : Prop where
  z : Z a = none
  f : m.live → F a = none
  o : ∃ o, H a = some o ∧ CellO K F μ o m
  l : m.lk → F a = H a
/-- the state and its image: F what stands for good, Z what others own, μ where the store's objects are -/
structure Rel (K : PySem.W.Frag) (Z F : Hp) (μ : List Addr) (c : Stt) (σ : St) (H : Hp) : Prop where
  ex : Same F H
  exz : Same Z H
  fz : ∀ a o, Z a = some o → F a = none
  len : σ.length = c.r.length
  slot : ∀ (i : Nat) (x : D), c.r[i]? = some (.d x) → ∃ v, σ[i]? = some (some v) ∧ Rep K F μ v x
  own : ∀ (i : Nat) (m : Cell), c.r[i]? = some (.own m) → ∃ a, σ[i]? = some (some (.ref a)) ∧ CellAt K Z F μ H a m ∧ m.live
  dis : ∀ (i j : Nat) (a : Addr) (m m' : Cell), c.r[i]? = some (.own m) → c.r[j]? = some (.own m') → σ[i]? = some (some (.ref a)) → σ[j]? = some (some (.ref a)) → i = j
  lm : μ.length = c.S.length
  sto : ∀ (n : Nat) (a : Addr) (m : Cell), μ[n]? = some a → c.S[n]? = some m → CellAt K Z F μ H a m
  dst : ∀ (i n : Nat) (a : Addr) (m : Cell), c.r[i]? = some (.own m) → σ[i]? = some (some (.ref a)) → μ[n]? = some a → False
  ndm : ∀ (n k : Nat) (a : Addr), μ[n]? = some a → μ[k]? = some a → n = k

section
variable {K : PySem.W.Frag} {Z F F' : Hp} {μ μ' : List Addr} {c : Stt} {σ : St} {H H' : Hp} {p : Addr} {o : HO}
theorem CellAt.grow {a : Addr} {m : Cell} (h : CellAt K Z F μ H a m) (le : Le F μ F' μ') (hf : m.live → F' a = none) (eh : Same H H') : CellAt K Z F' μ' H' a m :=
  ⟨h.z, hf, let ⟨o, e, q⟩ := h.o; ⟨o, eh _ _ e, q.mono le⟩, fun g => let ⟨o, e, _⟩ := h.o; (le.ex _ _ ((h.l g).trans e)).trans (eh _ _ e).symm⟩
/-- the heap has grown -/
theorem Rel.up (h : Rel K Z F μ c σ H) (e : Same H H') : Rel K Z F μ c σ H' :=
  { ex := h.ex.trans e, exz := h.exz.trans e, fz := h.fz, len := h.len, slot := h.slot,
    own := fun i m q => (let ⟨a, e1, e2, e3⟩ := h.own i m q; ⟨a, e1, e2.grow (Le.refl F μ) e2.f e, e3⟩), dis := h.dis, lm := h.lm,
    sto := fun n a m e1 e2 => (h.sto n a m e1 e2).grow (Le.refl F μ) (h.sto n a m e1 e2).f e, dst := h.dst, ndm := h.ndm }
theorem Rel.freeF (h : Rel K Z F μ c σ H) (n : H p = none) : F p = none := h.ex.free n
theorem Rel.freeZ (h : Rel K Z F μ c σ H) (n : H p = none) : Z p = none := h.exz.free n
/-- an object that nobody owns stands for good from now on -/
theorem Rel.fix (h : Rel K Z F μ c σ H) (hp : H p = some o) (fp : F p = none) (zp : Z p = none) (no : ∀ (i : Nat) (m : Cell), c.r[i]? = some (.own m) → σ[i]? ≠ some (some (.ref p))) (nm : ∀ (n : Nat) (m : Cell), μ[n]? = some p → c.S[n]? = some m → m = .gone) :
    Rel K Z (upd F p o) μ c σ H ∧ Le F μ (upd F p o) μ := by
  have le : Le F μ (upd F p o) μ := ⟨same_new fp, fun _ _ h => h⟩
  refine ⟨{ ex := fun b x e => ?_, exz := h.exz, fz := fun a x e => ?_, len := h.len, slot := fun i x e => (let ⟨v, e1, e2⟩ := h.slot i x e; ⟨v, e1, e2.mono le⟩), own := fun i m q => ?_, dis := h.dis, lm := h.lm, sto := fun n a m e1 e2 => ?_, dst := h.dst, ndm := h.ndm }, le⟩
  · by_cases hb : b = p
    · subst hb; rw [upd_same] at e; cases e; exact hp
    · rw [upd_ne hb] at e; exact h.ex b x e
  · have : a ≠ p := fun z => by subst z; rw [zp] at e; cases e
    rw [upd_ne this]; exact h.fz a x e
  · obtain ⟨a, e1, e2, e3⟩ := h.own i m q
    have : a ≠ p := fun z => by subst z; exact no i m q e1
    exact ⟨a, e1, e2.grow le (fun g => by rw [upd_ne this]; exact e2.f g) (Same.refl H), e3⟩
  · have e3 := h.sto n a m e1 e2
    refine e3.grow le (fun g => ?_) (Same.refl H)
    have : a ≠ p := fun z => by
      subst z
      rw [nm n m e1 e2] at g
      exact g
    rw [upd_ne this]; exact e3.f g
/-- a new object that stands for good -/
theorem Rel.new (h : Rel K Z F μ c σ H) (n : H p = none) : Rel K Z (upd F p o) μ c σ (upd H p o) ∧ Le F μ (upd F p o) μ := by
  refine (h.up (same_new n)).fix upd_same (h.freeF n) (h.freeZ n) (fun i m q e => ?_) (fun k m e1 e2 => ?_)
  · obtain ⟨a, e1, ⟨_, _, ⟨u, e2, _⟩, _⟩, _⟩ := h.own i m q
    rw [e1] at e; cases e; rw [n] at e2; cases e2
  · obtain ⟨_, _, ⟨u, e3, _⟩, _⟩ := h.sto k p m e1 e2
    rw [n] at e3; cases e3
/-- what is fresh is nobody's -/
theorem Rel.nobody (h : Rel K Z F μ c σ H) (n : H p = none) : (∀ (i : Nat) (m : Cell), c.r[i]? = some (.own m) → σ[i]? ≠ some (some (.ref p))) ∧ (∀ (k : Nat), μ[k]? ≠ some p) := by
  refine ⟨fun i m q e => ?_, fun k e1 => ?_⟩
  · obtain ⟨a, e1, ⟨_, _, ⟨u, e2, _⟩, _⟩, _⟩ := h.own i m q
    rw [e1] at e; cases e; rw [n] at e2; cases e2
  · have hk : k < c.S.length := by rw [← h.lm]; exact (List.getElem?_eq_some_iff.mp e1).1
    obtain ⟨_, _, ⟨u, e3, _⟩, _⟩ := h.sto k p _ e1 (List.getElem?_eq_getElem hk)
    rw [n] at e3; cases e3
/-- a slot takes a value -/
theorem Rel.setD (h : Rel K Z F μ c σ H) {i : Nat} {v : V} {x : D} (r : Rep K F μ v x) : Rel K Z F μ ⟨c.r.set i (.d x), c.S⟩ (σ.set i (some v)) H := by
  have key : ∀ (j : Nat) (m : Cell), (c.r.set i (.d x))[j]? = some (.own m) → j ≠ i ∧ c.r[j]? = some (.own m) := fun j m q => by
    by_cases hj : j = i
    · subst hj
      rw [List.getElem?_set] at q
      simp at q
    · rw [List.getElem?_set_ne (Ne.symm hj)] at q; exact ⟨hj, q⟩
  refine { ex := h.ex, exz := h.exz, fz := h.fz, len := by simpa using h.len, slot := fun j y q => ?_, own := fun j m q => ?_, dis := fun j k a m m' q1 q2 e1 e2 => ?_, lm := h.lm, sto := h.sto, dst := fun j n a m q e1 e2 => ?_, ndm := h.ndm }
  · by_cases hj : j = i
    · subst hj
      have hl : j < c.r.length := by
        have := (List.getElem?_eq_some_iff.mp q).1
        simpa using this
      rw [List.getElem?_set_self hl] at q
      cases q
      exact ⟨v, by rw [List.getElem?_set_self (by rw [h.len]; exact hl)], r⟩
    · rw [List.getElem?_set_ne (Ne.symm hj)] at q
      obtain ⟨w, e1, e2⟩ := h.slot j y q
      exact ⟨w, by rw [List.getElem?_set_ne (Ne.symm hj)]; exact e1, e2⟩
  · obtain ⟨hj, q⟩ := key j m q
    rw [List.getElem?_set_ne (Ne.symm hj)]
    exact h.own j m q
  · obtain ⟨hj, q1⟩ := key j m q1
    obtain ⟨hk, q2⟩ := key k m' q2
    rw [List.getElem?_set_ne (Ne.symm hj)] at e1
    rw [List.getElem?_set_ne (Ne.symm hk)] at e2
    exact h.dis j k a m m' q1 q2 e1 e2
  · obtain ⟨hj, q⟩ := key j m q
    rw [List.getElem?_set_ne (Ne.symm hj)] at e1
    exact h.dst j n a m q e1 e2
/-- a slot takes an object of its own -/
theorem Rel.setOwn (h : Rel K Z F μ c σ H) {i : Nat} {m : Cell} (hp : H p = some o) (fp : F p = none) (zp : Z p = none) (no : ∀ (j : Nat) (m : Cell), c.r[j]? = some (.own m) → σ[j]? ≠ some (some (.ref p))) (nm : ∀ (n : Nat), μ[n]? ≠ some p)
    (r : CellO K F μ o m) (hm : m.live) : Rel K Z F μ ⟨c.r.set i (.own m), c.S⟩ (σ.set i (some (.ref p))) H := by
  have key : ∀ (j : Nat) (m' : Cell), (c.r.set i (.own m))[j]? = some (.own m') → (j = i ∧ m' = m ∧ j < c.r.length) ∨ (j ≠ i ∧ c.r[j]? = some (.own m')) := fun j m' q => by
    by_cases hj : j = i
    · subst hj
      have hl : j < c.r.length := by
        have := (List.getElem?_eq_some_iff.mp q).1
        simpa using this
      rw [List.getElem?_set_self hl] at q
      cases q
      exact .inl ⟨rfl, rfl, hl⟩
    · rw [List.getElem?_set_ne (Ne.symm hj)] at q; exact .inr ⟨hj, q⟩
  refine { ex := h.ex, exz := h.exz, fz := h.fz, len := by simpa using h.len, slot := fun j y q => ?_, own := fun j m' q => ?_, dis := fun j k a m1 m2 q1 q2 e1 e2 => ?_, lm := h.lm, sto := h.sto, dst := fun j n a m' q e1 e2 => ?_, ndm := h.ndm }
  · by_cases hj : j = i
    · subst hj
      rw [List.getElem?_set] at q
      simp at q
    · rw [List.getElem?_set_ne (Ne.symm hj)] at q
      obtain ⟨w, e1, e2⟩ := h.slot j y q
      exact ⟨w, by rw [List.getElem?_set_ne (Ne.symm hj)]; exact e1, e2⟩
  · rcases key j m' q with ⟨rfl, rfl, hl⟩ | ⟨hj, q⟩
    · exact ⟨p, by rw [List.getElem?_set_self (by rw [h.len]; exact hl)], ⟨zp, fun _ => fp, ⟨o, hp, r⟩, fun g => (lkE hm g).elim⟩, hm⟩
    · rw [List.getElem?_set_ne (Ne.symm hj)]
      exact h.own j m' q
  · rcases key j m1 q1 with ⟨rfl, _, hl⟩ | ⟨hj, q3⟩
    · rw [List.getElem?_set_self (by rw [h.len]; exact hl)] at e1
      cases e1
      rcases key k m2 q2 with ⟨rfl, _, _⟩ | ⟨hk, q4⟩
      · rfl
      · rw [List.getElem?_set_ne (Ne.symm hk)] at e2
        exact absurd e2 (no k m2 q4)
    · rw [List.getElem?_set_ne (Ne.symm hj)] at e1
      rcases key k m2 q2 with ⟨rfl, _, hl⟩ | ⟨hk, q4⟩
      · rw [List.getElem?_set_self (by rw [h.len]; exact hl)] at e2
        cases e2
        exact absurd e1 (no j m1 q3)
      · rw [List.getElem?_set_ne (Ne.symm hk)] at e2
        exact h.dis j k a m1 m2 q3 q4 e1 e2
  · rcases key j m' q with ⟨rfl, _, hl⟩ | ⟨hj, q⟩
    · rw [List.getElem?_set_self (by rw [h.len]; exact hl)] at e1
      cases e1
      exact nm n e2
    · rw [List.getElem?_set_ne (Ne.symm hj)] at e1
      exact h.dst j n a m' q e1 e2
/-- the object of a slot is written -/
theorem Rel.write (h : Rel K Z F μ c σ H) {i : Nat} {m m' : Cell} (q : c.r[i]? = some (.own m)) (e : σ[i]? = some (some (.ref p))) (r : CellO K F μ o m') (hm : m'.live) :
    Rel K Z F μ ⟨c.r.set i (.own m'), c.S⟩ σ (upd H p o) := by
  obtain ⟨p', e', cp, hg⟩ := h.own i m q
  rw [e] at e'; cases e'
  have hl : i < c.r.length := (List.getElem?_eq_some_iff.mp q).1
  have key : ∀ (j : Nat) (m1 : Cell), (c.r.set i (.own m'))[j]? = some (.own m1) → (j = i ∧ m1 = m') ∨ (j ≠ i ∧ c.r[j]? = some (.own m1)) := fun j m1 q1 => by
    by_cases hj : j = i
    · subst hj
      rw [List.getElem?_set_self hl] at q1
      cases q1
      exact .inl ⟨rfl, rfl⟩
    · rw [List.getElem?_set_ne (Ne.symm hj)] at q1; exact .inr ⟨hj, q1⟩
  refine { ex := fun b x eb => ?_, exz := fun b x eb => ?_, fz := h.fz, len := by simpa using h.len, slot := fun j y q1 => ?_, own := fun j m1 q1 => ?_, dis := fun j k a m1 m2 q1 q2 e1 e2 => ?_, lm := h.lm, sto := fun n a m1 e1 e2 => ?_, dst := fun j n a m1 q1 e1 e2 => ?_, ndm := h.ndm }
  · have : b ≠ p := fun z => by subst z; rw [cp.f hg] at eb; cases eb
    rw [upd_ne this]; exact h.ex b x eb
  · have : b ≠ p := fun z => by subst z; rw [cp.z] at eb; cases eb
    rw [upd_ne this]; exact h.exz b x eb
  · by_cases hj : j = i
    · subst hj
      rw [List.getElem?_set_self hl] at q1
      cases q1
    · rw [List.getElem?_set_ne (Ne.symm hj)] at q1
      exact h.slot j y q1
  · rcases key j m1 q1 with ⟨rfl, rfl⟩ | ⟨hj, q1⟩
    · exact ⟨p, e, ⟨cp.z, fun _ => cp.f hg, ⟨o, upd_same, r⟩, fun g => (lkE hm g).elim⟩, hm⟩
    · obtain ⟨a, e1, c1, g1⟩ := h.own j m1 q1
      have : a ≠ p := fun z => by subst z; exact hj (h.dis j i a m1 m q1 q e1 e)
      exact ⟨a, e1, ⟨c1.z, c1.f, let ⟨u, e2, e3⟩ := c1.o; ⟨u, by rw [upd_ne this]; exact e2, e3⟩, fun g => by rw [upd_ne this]; exact c1.l g⟩, g1⟩
  · rcases key j m1 q1 with ⟨rfl, _⟩ | ⟨hj, q3⟩ <;> rcases key k m2 q2 with ⟨rfl, _⟩ | ⟨hk, q4⟩
    · rfl
    · exact h.dis _ _ a m m2 q q4 e1 e2
    · exact h.dis _ _ a m1 m q3 q e1 e2
    · exact h.dis j k a m1 m2 q3 q4 e1 e2
  · have c1 := h.sto n a m1 e1 e2
    have : a ≠ p := fun z => by subst z; exact h.dst i n a m q e e1
    exact ⟨c1.z, c1.f, let ⟨u, e2, e3⟩ := c1.o; ⟨u, by rw [upd_ne this]; exact e2, e3⟩, fun g => by rw [upd_ne this]; exact c1.l g⟩
  · rcases key j m1 q1 with ⟨rfl, _⟩ | ⟨hj, q1⟩
    · exact h.dst _ n a m q e1 e2
    · exact h.dst j n a m1 q1 e1 e2
/-- the object of a slot stands for good -/
theorem Rel.freeze (h : Rel K Z F μ c σ H) {i : Nat} {m : Cell} {x : D} (q : c.r[i]? = some (.own m)) (e : σ[i]? = some (some (.ref p))) (hp : H p = some o)
    (r : Rep K (upd F p o) μ (.ref p) x) : Rel K Z (upd F p o) μ ⟨c.r.set i (.d x), c.S⟩ σ H ∧ Le F μ (upd F p o) μ := by
  obtain ⟨p', e', cp, hg⟩ := h.own i m q
  rw [e] at e'; cases e'
  have fp : F p = none := cp.f hg
  have le : Le F μ (upd F p o) μ := ⟨same_new fp, fun _ _ h => h⟩
  have hl : i < c.r.length := (List.getElem?_eq_some_iff.mp q).1
  have key : ∀ (j : Nat) (m1 : Cell), (c.r.set i (.d x))[j]? = some (.own m1) → (j ≠ i ∧ c.r[j]? = some (.own m1)) := fun j m1 q1 => by
    by_cases hj : j = i
    · subst hj
      rw [List.getElem?_set_self hl] at q1
      cases q1
    · rw [List.getElem?_set_ne (Ne.symm hj)] at q1; exact ⟨hj, q1⟩
  refine ⟨{ ex := fun b x1 eb => ?_, exz := h.exz, fz := fun a x1 ea => ?_, len := by simpa using h.len, slot := fun j y q1 => ?_, own := fun j m1 q1 => ?_, dis := fun j k a m1 m2 q1 q2 e1 e2 => ?_, lm := h.lm, sto := fun n a m1 e1 e2 => ?_, dst := fun j n a m1 q1 e1 e2 => ?_, ndm := h.ndm }, le⟩
  · by_cases hb : b = p
    · subst hb; rw [upd_same] at eb; cases eb; exact hp
    · rw [upd_ne hb] at eb; exact h.ex b x1 eb
  · have : a ≠ p := fun z => by subst z; rw [cp.z] at ea; cases ea
    rw [upd_ne this]; exact h.fz a x1 ea
  · by_cases hj : j = i
    · subst hj
      rw [List.getElem?_set_self hl] at q1
      cases q1
      exact ⟨_, e, r⟩
    · rw [List.getElem?_set_ne (Ne.symm hj)] at q1
      obtain ⟨w, e1, e2⟩ := h.slot j y q1
      exact ⟨w, e1, e2.mono le⟩
  · obtain ⟨hj, q1⟩ := key j m1 q1
    obtain ⟨a, e1, c1, g1⟩ := h.own j m1 q1
    have : a ≠ p := fun z => by subst z; exact hj (h.dis j i a m1 m q1 q e1 e)
    exact ⟨a, e1, c1.grow le (fun g => by rw [upd_ne this]; exact c1.f g) (Same.refl H), g1⟩
  · obtain ⟨hj, q1⟩ := key j m1 q1
    obtain ⟨hk, q2⟩ := key k m2 q2
    exact h.dis j k a m1 m2 q1 q2 e1 e2
  · have c1 := h.sto n a m1 e1 e2
    have : a ≠ p := fun z => by subst z; exact h.dst i n a m q e e1
    exact c1.grow le (fun g => by rw [upd_ne this]; exact c1.f g) (Same.refl H)
  · obtain ⟨hj, q1⟩ := key j m1 q1
    exact h.dst j n a m1 q1 e1 e2
/-- a new object of the store -/
theorem Rel.push (h : Rel K Z F μ c σ H) {m : Cell} (hp : H p = some o) (fp : F p = none) (zp : Z p = none) (no : ∀ (j : Nat) (m : Cell), c.r[j]? = some (.own m) → σ[j]? ≠ some (some (.ref p))) (nm : ∀ (n : Nat), μ[n]? ≠ some p)
    (r : CellO K F (μ ++ [p]) o m) (hm : m.live := by trivial) : Rel K Z F (μ ++ [p]) ⟨c.r, c.S ++ [m]⟩ σ H ∧ Le F μ F (μ ++ [p]) := by
  have get : ∀ (n : Nat) (a : Addr), (μ ++ [p])[n]? = some a → (n < μ.length ∧ μ[n]? = some a) ∨ (n = μ.length ∧ a = p) := fun n a e => by
    rw [List.getElem?_append] at e
    split at e
    · exact .inl ⟨by assumption, e⟩
    · have hn : n - μ.length = 0 := by
        have := (List.getElem?_eq_some_iff.mp e).1
        simp at this; omega
      rw [hn] at e
      simp at e
      exact .inr ⟨by omega, e.symm⟩
  have le : Le F μ F (μ ++ [p]) := ⟨Same.refl F, fun n a e => by
    rw [List.getElem?_append_left (List.getElem?_eq_some_iff.mp e).1]; exact e⟩
  refine ⟨{ ex := h.ex, exz := h.exz, fz := h.fz, len := h.len, slot := fun i x e => (let ⟨v, e1, e2⟩ := h.slot i x e; ⟨v, e1, e2.mono le⟩), own := fun i m q => (let ⟨a, e1, e2, e3⟩ := h.own i m q; ⟨a, e1, e2.grow le e2.f (Same.refl H), e3⟩), dis := h.dis, lm := by simp [h.lm], sto := fun n a m1 e1 e2 => ?_, dst := fun i n a m1 q e1 e2 => ?_, ndm := fun n k a e1 e2 => ?_ }, le⟩
  · rcases get n a e1 with ⟨hl, e1⟩ | ⟨hn, ha⟩
    · have e2' : c.S[n]? = some m1 := by
        rw [List.getElem?_append_left (by rw [← h.lm]; exact hl)] at e2; exact e2
      have c1 := h.sto n a m1 e1 e2'
      exact c1.grow le c1.f (Same.refl H)
    · subst hn ha
      have e2' : m = m1 := by
        have e2 : (c.S ++ [m])[μ.length]? = some m1 := e2
        rw [h.lm, List.getElem?_append_right (Nat.le_refl _)] at e2
        simpa using e2
      subst e2'
      exact ⟨zp, fun _ => fp, ⟨o, hp, r⟩, fun g => (lkE hm g).elim⟩
  · rcases get n a e2 with ⟨_, e2⟩ | ⟨_, ha⟩
    · exact h.dst i n a m1 q e1 e2
    · subst ha
      exact no i m1 q e1
  · rcases get n a e1 with ⟨_, e3⟩ | ⟨hn, ha⟩ <;> rcases get k a e2 with ⟨_, e4⟩ | ⟨hk, hb⟩
    · exact h.ndm n k a e3 e4
    · subst hb; exact absurd e3 (nm n)
    · subst ha; exact absurd e4 (nm k)
    · omega
/-- an object of the store is written -/
theorem Rel.put (h : Rel K Z F μ c σ H) {n : Nat} {m m' : Cell} (q : c.S[n]? = some m) (hg : m.live) (e : μ[n]? = some p) (r : CellO K F μ o m') (hm : m'.live := by trivial) :
    Rel K Z F μ ⟨c.r, c.S.set n m'⟩ σ (upd H p o) := by
  have cp := h.sto n p m e q
  have hl : n < c.S.length := (List.getElem?_eq_some_iff.mp q).1
  refine { ex := fun b x eb => ?_, exz := fun b x eb => ?_, fz := h.fz, len := h.len, slot := h.slot, own := fun j m1 q1 => ?_, dis := h.dis, lm := by simpa using h.lm, sto := fun k a m1 e1 e2 => ?_, dst := h.dst, ndm := h.ndm }
  · have : b ≠ p := fun z => by subst z; rw [cp.f hg] at eb; cases eb
    rw [upd_ne this]; exact h.ex b x eb
  · have : b ≠ p := fun z => by subst z; rw [cp.z] at eb; cases eb
    rw [upd_ne this]; exact h.exz b x eb
  · obtain ⟨a, e1, c1, g1⟩ := h.own j m1 q1
    have : a ≠ p := fun z => by subst z; exact h.dst j n a m1 q1 e1 e
    exact ⟨a, e1, ⟨c1.z, c1.f, let ⟨u, e2, e3⟩ := c1.o; ⟨u, by rw [upd_ne this]; exact e2, e3⟩, fun g => by rw [upd_ne this]; exact c1.l g⟩, g1⟩
  · by_cases hk : k = n
    · subst hk
      rw [e] at e1; cases e1
      have e2 : (c.S.set k m')[k]? = some m1 := e2
      rw [List.getElem?_set_self hl] at e2
      cases e2
      exact ⟨cp.z, fun _ => cp.f hg, ⟨o, upd_same, r⟩, fun g => (lkE hm g).elim⟩
    · have e2 : (c.S.set n m')[k]? = some m1 := e2
      rw [List.getElem?_set_ne (Ne.symm hk)] at e2
      have c1 := h.sto k a m1 e1 e2
      have : a ≠ p := fun z => by subst z; exact hk (h.ndm k n a e1 e)
      exact ⟨c1.z, c1.f, let ⟨u, e2, e3⟩ := c1.o; ⟨u, by rw [upd_ne this]; exact e2, e3⟩, fun g => by rw [upd_ne this]; exact c1.l g⟩
end
end My

set_option Elab.async false
set_option linter.all false
set_option maxRecDepth 100000
set_option maxHeartbeats 4000000
/-! F2: what a piece of a text evaluates to, as a plain function of the image. -/
namespace My
open PySem L2

def M.bind {α β : Type} (m : M α) (f : α → M β) : M β := fun c => match m c with
  | .ok a c' => f a c'
  | .ex e c' => .ex e c'
  | .no => .no
def M.pure {α : Type} (a : α) : M α := fun c => .ok a c
def M.no {α : Type} : M α := fun _ => .no

/-- an operand: data, or the object of a slot -/
inductive O where
  | d (x : D)
  | sl (i : Nat)
inductive RepO (K : PySem.W.Frag) (F : Hp) (μ : List Addr) (σ : St) : V → O → Prop
  | d {v : V} {x : D} : Rep K F μ v x → RepO K F μ σ v (.d x)
  | sl {v : V} {i : Nat} : σ[i]? = some (some v) → RepO K F μ σ v (.sl i)
theorem RepO.mono {K : PySem.W.Frag} {F F' : Hp} {μ μ' : List Addr} {σ : St} {v : V} {o : O} (le : Le F μ F' μ') (h : RepO K F μ σ v o) : RepO K F' μ' σ v o := by
  cases h with
  | d h => exact .d (h.mono le)
  | sl h => exact .sl h
inductive RepX (K : PySem.W.Frag) (F : Hp) (μ : List Addr) : Value → Option Addr → Exn → Prop
  | none {cls : Value} : RepX K F μ cls none ⟨cls, none⟩
  | some {cls : Value} {d : Addr} {f : Str} {v : V} {x : D} : F d = some (.xd [(f, v)]) → Rep K F μ v x → RepX K F μ cls (some d) ⟨cls, some (f, x)⟩

/-- what is wanted behind an expression -/
def Post (K : PySem.W.Frag) (Z F : Hp) (μ : List Addr) (σ : St) (W : WX) {α : Type} (r : R α) (P : α → Stt → Hp → List Addr → Hp → Prop) : Prop := match r with
  | .ok a c => ∀ F' μ' H', Le F μ F' μ' → Rel K Z F' μ' c σ H' → P a c F' μ' H'
  | .ex e c => ∀ cls od F' μ' H', Le F μ F' μ' → Rel K Z F' μ' c σ H' → RepX K F' μ' cls od e → W cls od σ H'
  | .no => False
section
variable {K : PySem.W.Frag} {Z F F' : Hp} {μ μ' : List Addr} {σ : St} {W : WX} {α β : Type}
theorem Post.le {r : R α} {P : α → Stt → Hp → List Addr → Hp → Prop} (le : Le F μ F' μ') (h : Post K Z F μ σ W r P) : Post K Z F' μ' σ W r P := by
  cases r with
  | ok a c => exact fun F2 μ2 H2 l r => h F2 μ2 H2 (le.trans l) r
  | ex e c => exact fun cls od F2 μ2 H2 l r x => h cls od F2 μ2 H2 (le.trans l) r x
  | no => exact h
theorem Post.imp {r : R α} {P P' : α → Stt → Hp → List Addr → Hp → Prop} (h : Post K Z F μ σ W r P) (hp : ∀ a c F' μ' H', Le F μ F' μ' → Rel K Z F' μ' c σ H' → P a c F' μ' H' → P' a c F' μ' H') : Post K Z F μ σ W r P' := by
  cases r with
  | ok a c => exact fun F2 μ2 H2 l r => hp a c F2 μ2 H2 l r (h F2 μ2 H2 l r)
  | ex e c => exact h
  | no => exact h
/-- behind the first of two -/
theorem Post.bind {m : M α} {f : α → M β} {c : Stt} {P : β → Stt → Hp → List Addr → Hp → Prop} (h : Post K Z F μ σ W (M.bind m f c) P) :
    Post K Z F μ σ W (m c) (fun a c' F' μ' H' => Post K Z F' μ' σ W (f a c') P) := by
  unfold M.bind at h
  cases e : m c with
  | ok a c' => rw [e] at h; exact fun F2 μ2 H2 l r => Post.le l h
  | ex x c' => rw [e] at h; exact h
  | no => rw [e] at h; exact h
end

def EvE (K : PySem.W.Frag) (W : WX) (te : TE) (de : M O) : Prop := ∀ (Z F : Hp) (μ : List Addr) (c : Stt) (σ : St) (H : Hp) (Q : VK), Rel K Z F μ c σ H →
  Post K Z F μ σ W (de c) (fun o _ F' μ' H' => ∀ v, RepO K F' μ' σ v o → Q v H') → te σ H Q
def EvD (K : PySem.W.Frag) (W : WX) (te : TE) (de : M D) : Prop := ∀ (Z F : Hp) (μ : List Addr) (c : Stt) (σ : St) (H : Hp) (Q : VK), Rel K Z F μ c σ H →
  Post K Z F μ σ W (de c) (fun x _ F' μ' H' => ∀ v, Rep K F' μ' v x → Q v H') → te σ H Q
/-- nobody's object -/
structure Nob (Z F : Hp) (μ : List Addr) (c : Stt) (σ : St) (p : Addr) : Prop where
  f : F p = none
  z : Z p = none
  no : ∀ (i : Nat) (m : Cell), c.r[i]? = some (.own m) → σ[i]? ≠ some (some (.ref p))
  nm : ∀ (k : Nat), μ[k]? ≠ some p
/-- a new list that is nobody's -/
def EvN (K : PySem.W.Frag) (W : WX) (te : TE) (dn : M (List D)) : Prop := ∀ (Z F : Hp) (μ : List Addr) (c : Stt) (σ : St) (H : Hp) (Q : VK), Rel K Z F μ c σ H →
  Post K Z F μ σ W (dn c) (fun ds c' F' μ' H' => ∀ p vs, H' p = some (.lst vs) → Nob Z F' μ' c' σ p → Reps K F' μ' vs ds → Q (.ref p) H') → te σ H Q
def EvT (K : PySem.W.Frag) (W : WX) (tt : TT) (dt : M Bool) : Prop := ∀ (Z F : Hp) (μ : List Addr) (c : Stt) (σ : St) (H : Hp) (Q : Bool → Hp → Prop), Rel K Z F μ c σ H →
  Post K Z F μ σ W (dt c) (fun b _ _ _ H' => Q b H') → tt σ H Q
def EvA (K : PySem.W.Frag) (W : WX) (ta : TA) (da : M (List D)) : Prop := ∀ (Z F : Hp) (μ : List Addr) (c : Stt) (σ : St) (H : Hp) (Q : List V → Hp → Prop), Rel K Z F μ c σ H →
  Post K Z F μ σ W (da c) (fun ds _ F' μ' H' => ∀ vs, Reps K F' μ' vs ds → Q vs H') → ta σ H Q

/-- a list's, a tuple's items -/
def seqD (c : Stt) : O → Option (List D)
  | .d (.lst ds) => some ds
  | .d (.scr ds) => some ds
  | .d (.tup ds) => some ds
  | .d (.loc n) => match c.S[n]? with
    | some (.lst ds) => some ds
    | _ => none
  | .sl i => match c.r[i]? with
    | some (.own (.lst ds)) => some ds
    | some (.d (.lst ds)) => some ds
    | _ => none
  | _ => none
section
variable {K : PySem.W.Frag} {Z F F' : Hp} {μ μ' : List Addr} {c : Stt} {σ : St} {H H' : Hp} {W : WX}
theorem Rel.nob {p : Addr} (h : Rel K Z F μ c σ H) (n : H p = none) : Nob Z F μ c σ p := ⟨h.freeF n, h.freeZ n, (h.nobody n).1, (h.nobody n).2⟩
theorem seq_at {v : V} {o : O} {ds : List D} (h : Rel K Z F μ c σ H) (r : RepO K F μ σ v o) (e : seqD c o = some ds) : ∃ a vs, v = .ref a ∧ (SqL K H a vs ∨ SqT K H a vs) ∧ Reps K F μ vs ds := by
  unfold seqD at e
  cases r with
  | d r =>
    cases r with
    | v x => cases e
    | tup hs r => cases e; exact ⟨_, _, rfl, .inr (Same.seqT h.ex hs), r⟩
    | lst hs r => cases e; exact ⟨_, _, rfl, .inl (.of (h.ex _ _ hs)), r⟩
    | scr hs r => cases e; exact ⟨_, _, rfl, .inl (h.ex.seq hs), r⟩
    | dct _ _ _ => cases e
    | ins _ _ _ => cases e
    | exn0 => cases e
    | exn1 _ _ => cases e
    | @loc n a hn =>
      dsimp only at e
      cases q : c.S[n]? with
      | none => rw [q] at e; cases e
      | some m =>
        rw [q] at e
        cases m with
        | lst es =>
          cases e
          obtain ⟨_, _, ⟨u, e1, e2⟩, _⟩ := h.sto _ _ _ hn q
          cases e2 with
          | lst r => exact ⟨_, _, rfl, .inl (.of e1), r⟩
        | dct _ => cases e
        | ins _ _ => cases e
        | lck _ => cases e
        | gone => cases e
  | @sl i hs =>
    dsimp only at e
    cases q : c.r[i]? with
    | none => rw [q] at e; cases e
    | some x =>
      rw [q] at e
      cases x with
      | no => cases e
      | d x =>
        cases x with
        | lst es =>
          cases e
          obtain ⟨v', e1, e2⟩ := h.slot i _ q
          rw [hs] at e1; cases e1
          cases e2 with
          | lst hh r => exact ⟨_, _, rfl, .inl (.of (h.ex _ _ hh)), r⟩
        | _ => cases e
      | own m =>
        cases m with
        | lst es =>
          cases e
          obtain ⟨a, e1, ⟨_, _, ⟨u, e2, e3⟩, _⟩, _⟩ := h.own i _ q
          rw [hs] at e1; cases e1
          cases e3 with
          | lst r => exact ⟨_, _, rfl, .inl (.of e2), r⟩
        | _ => cases e
/-- a list that is tracked as a list -/
def lstD (c : Stt) : O → Option (List D)
  | .d (.lst ds) => some ds
  | .d (.loc n) => match c.S[n]? with
    | some (.lst ds) => some ds
    | _ => none
  | .sl i => match c.r[i]? with
    | some (.own (.lst ds)) => some ds
    | some (.d (.lst ds)) => some ds
    | _ => none
  | _ => none
theorem lst_at {v : V} {o : O} {ds : List D} (h : Rel K Z F μ c σ H) (r : RepO K F μ σ v o) (e : lstD c o = some ds) : ∃ a vs, v = .ref a ∧ H a = some (.lst vs) ∧ Reps K F μ vs ds := by
  unfold lstD at e
  cases r with
  | d r =>
    cases r with
    | v x => cases e
    | tup hs r => cases e
    | lst hs r => cases e; exact ⟨_, _, rfl, h.ex _ _ hs, r⟩
    | scr hs r => cases e
    | dct _ _ _ => cases e
    | ins _ _ _ => cases e
    | exn0 => cases e
    | exn1 _ _ => cases e
    | @loc n a hn =>
      dsimp only at e
      cases q : c.S[n]? with
      | none => rw [q] at e; cases e
      | some m =>
        rw [q] at e
        cases m with
        | lst es =>
          cases e
          obtain ⟨_, _, ⟨u, e1, e2⟩, _⟩ := h.sto _ _ _ hn q
          cases e2 with
          | lst r => exact ⟨_, _, rfl, e1, r⟩
        | _ => cases e
  | @sl i hs =>
    dsimp only at e
    cases q : c.r[i]? with
    | none => rw [q] at e; cases e
    | some x =>
      rw [q] at e
      cases x with
      | no => cases e
      | d x =>
        cases x with
        | lst es =>
          cases e
          obtain ⟨v', e1, e2⟩ := h.slot i _ q
          rw [hs] at e1; cases e1
          cases e2 with
          | lst hh r => exact ⟨_, _, rfl, h.ex _ _ hh, r⟩
        | _ => cases e
      | own m =>
        cases m with
        | lst es =>
          cases e
          obtain ⟨a, e1, ⟨_, _, ⟨u, e2, e3⟩, _⟩, _⟩ := h.own i _ q
          rw [hs] at e1; cases e1
          cases e3 with
          | lst r => exact ⟨_, _, rfl, e2, r⟩
        | _ => cases e
/-- a tuple's items -/
def tupD : O → Option (List D)
  | .d (.tup ds) => some ds
  | _ => none
theorem tup_at {v : V} {o : O} {ds : List D} (h : Rel K Z F μ c σ H) (r : RepO K F μ σ v o) (e : tupD o = some ds) : ∃ a vs, v = .ref a ∧ SqT K H a vs ∧ Reps K F μ vs ds := by
  unfold tupD at e
  cases r with
  | d r =>
    cases r with
    | tup hs r => cases e; exact ⟨_, _, rfl, Same.seqT h.ex hs, r⟩
    | _ => cases e
  | sl hs => cases e

/-! ### the object of a slot stands for good -/
def frz : O → M D
  | .d x => fun c => .ok x c
  | .sl i => fun c => match c.r[i]? with
    | some (.own (.lst ds)) => .ok (.lst ds) ⟨c.r.set i (.d (.lst ds)), c.S⟩
    | some (.own (.dct ds)) => .ok (.dct ds) ⟨c.r.set i (.d (.dct ds)), c.S⟩
    | some (.own (.ins C ds)) => .ok (.ins C ds) ⟨c.r.set i (.d (.ins C ds)), c.S⟩
    | some (.d x) => .ok x c
    | _ => .no
theorem frz_ok {v : V} {o : O} {P : D → Stt → Hp → List Addr → Hp → Prop} (h : Rel K Z F μ c σ H) (r : RepO K F μ σ v o) (p : Post K Z F μ σ W (frz o c) P) :
    ∃ x c' F' , Le F μ F' μ ∧ Rel K Z F' μ c' σ H ∧ Rep K F' μ v x ∧ P x c' F' μ H := by
  cases r with
  | d r => exact ⟨_, _, F, Le.refl F μ, h, r, p F μ H (Le.refl F μ) h⟩
  | @sl i hs =>
    unfold frz at p
    dsimp only at p
    cases q : c.r[i]? with
    | none => rw [q] at p; exact p.elim
    | some x =>
      rw [q] at p
      cases x with
      | no => exact p.elim
      | d x =>
        obtain ⟨v', e1, e2⟩ := h.slot i _ q
        rw [hs] at e1; cases e1
        exact ⟨_, _, F, Le.refl F μ, h, e2, p F μ H (Le.refl F μ) h⟩
      | own m =>
        obtain ⟨a, e1, ⟨_, hf, ⟨u, e2, e3⟩, _⟩, hg⟩ := h.own i _ q
        rw [hs] at e1; cases e1
        have le : Le F μ (upd F a u) μ := ⟨same_new (hf hg), fun _ _ h => h⟩
        cases e3 with
        | lst r =>
          have r' : Rep K (upd F a (.lst _)) μ (.ref a) (.lst _) := .lst upd_same (r.mono le)
          obtain ⟨h1, l1⟩ := h.freeze q hs e2 r'
          exact ⟨_, _, _, l1, h1, r', p _ _ _ l1 h1⟩
        | dct k r =>
          have r' : Rep K (upd F a (.dK _)) μ (.ref a) (.dct _) := .dct upd_same k (r.mono le)
          obtain ⟨h1, l1⟩ := h.freeze q hs e2 r'
          exact ⟨_, _, _, l1, h1, r', p _ _ _ l1 h1⟩
        | ins k r =>
          have r' : Rep K (upd F a (.ins _ _ _)) μ (.ref a) (.ins _ _) := .ins upd_same k (r.mono le)
          obtain ⟨h1, l1⟩ := h.freeze q hs e2 r'
          exact ⟨_, _, _, l1, h1, r', p _ _ _ l1 h1⟩
        | lck k r => exact p.elim
        | gone => exact p.elim
def dD (m : M O) : M D := M.bind m frz
theorem EvE.d {te : TE} {de : M O} (h : EvE K W te de) : EvD K W te (dD de) := fun Z F μ c σ H Q R p =>
  h Z F μ c σ H Q R (p.bind.imp fun o c' F' μ' H' le R' q v r => by
    obtain ⟨x, c2, F2, le2, R2, r2, k⟩ := frz_ok R' r q
    exact k v r2)
def okD (m : M D) : M O := M.bind m fun x => M.pure (.d x)
theorem EvD.e {te : TE} {de : M D} (h : EvD K W te de) : EvE K W te (okD de) := fun Z F μ c σ H Q R p =>
  h Z F μ c σ H Q R (p.bind.imp fun x c' F' μ' H' le R' q v r => q F' μ' H' (Le.refl _ _) R' v (.d r))
def okN (m : M (List D)) : M O := M.bind m fun ds => M.pure (.d (.lst ds))
theorem EvN.e {te : TE} {dn : M (List D)} (h : EvN K W te dn) : EvE K W te (okN dn) := fun Z F μ c σ H Q R p =>
  h Z F μ c σ H Q R (p.bind.imp fun ds c' F' μ' H' le R' q a vs hp n r => by
    obtain ⟨R2, l2⟩ := R'.fix hp n.f n.z n.no (fun k m e _ => absurd e (n.nm k))
    exact q _ _ _ l2 R2 (.ref a) (.d (.lst upd_same (r.mono l2))))
end
end My

set_option Elab.async false
set_option linter.all false
set_option maxRecDepth 100000
set_option maxHeartbeats 4000000
/-! F3: the rules for expressions. -/
namespace My
open PySem L2

structure ED (X : Cx) (W : WX) (e : Expr) (t : TE) (d : M O) : Prop where
  pe : PE X e t
  ev : EvE X.K W t d
structure DD (X : Cx) (W : WX) (e : Expr) (t : TE) (d : M D) : Prop where
  pe : PE X e t
  ev : EvD X.K W t d
structure EN (X : Cx) (W : WX) (e : Expr) (t : TE) (d : M (List D)) : Prop where
  pe : PE X e t
  ev : EvN X.K W t d
structure TD (X : Cx) (W : WX) (e : Expr) (t : TT) (d : M Bool) : Prop where
  pt : PT X e t
  ev : EvT X.K W t d
structure WD (X : Cx) (W : WX) (e : Expr) (t : TT) (d : M Bool) : Prop where
  pw : PW X e t
  ev : EvT X.K W t d
structure AD (X : Cx) (W : WX) (es : List Expr) (t : TA) (d : M (List D)) : Prop where
  pa : PA X es t
  ev : EvA X.K W t d

section
variable {X : Cx} {W : WX} {a b : Expr} {t ta tb : TE} {pos : Pos}
theorem ED.d {e : Expr} {d : M O} (h : ED X W e t d) : DD X W e t (dD d) := ⟨h.pe, h.ev.d⟩
theorem DD.e {e : Expr} {d : M D} (h : DD X W e t d) : ED X W e t (okD d) := ⟨h.pe, h.ev.e⟩
theorem EN.e {e : Expr} {d : M (List D)} (h : EN X W e t d) : ED X W e t (okN d) := ⟨h.pe, h.ev.e⟩

/-! ### names and constants -/
def dVar (i : Nat) : M O := fun c => match c.r[i]? with
  | some (.d x) => .ok (.d x) c
  | some (.own _) => .ok (.sl i) c
  | _ => .no
theorem ed_var (i : Nat) {x : Str} (hN : X.N[i]? = some x := by rfl) (hv : Vis X.env.scope x := by first | exact Or.inl rfl | exact Or.inr (Or.inl rfl) | exact Or.inr (Or.inr rfl)) (hd : (x == ("__debug__" : Str)) = false := by decide)
    (hcd : (x == ("__classdict__" : Str)) = false := by decide) : ED X W (.Name x pos) (tVar i) (dVar i) := by
  refine ⟨pe_var hN hv hd hcd, fun Z F μ c σ H Q R p => ?_⟩
  unfold dVar at p
  cases q : c.r[i]? with
  | none => rw [q] at p; exact p.elim
  | some x =>
    rw [q] at p
    cases x with
    | no => exact p.elim
    | d x =>
      obtain ⟨v, e1, e2⟩ := R.slot i x q
      exact ⟨v, e1, p F μ H (Le.refl _ _) R v (.d e2)⟩
    | own m =>
      obtain ⟨v, e1, _⟩ := R.own i m q
      exact ⟨.ref v, e1, p F μ H (Le.refl _ _) R _ (.sl e1)⟩
def dC (v : V) : M O := fun c => .ok (.d (.v v)) c
theorem ev_c {K : PySem.W.Frag} {v : V} : EvE K W (tC v) (dC v) := fun Z F μ c σ H Q R p => p F μ H (Le.refl _ _) R v (.d (.v v))
theorem ed_int {i : Int} {j : Nat} : ED X W (.Constant (.int i) j pos) (tC (.int i)) (dC (.int i)) := ⟨pe_int, ev_c⟩
theorem ed_bl {b : Bool} {j : Nat} : ED X W (.Constant (.bool b) j pos) (tC (.bl b)) (dC (.bl b)) := ⟨pe_bl, ev_c⟩
theorem ed_non {j : Nat} : ED X W (.Constant .none j pos) (tC .non) (dC .non) := ⟨pe_non, ev_c⟩
theorem ed_str {x : Str} {j : Nat} : ED X W (.Constant (.str x) j pos) (tC (.str x)) (dC (.str x)) := ⟨pe_str, ev_c⟩
/-- a module's constant -/
def dK (x : D) : M O := fun c => .ok (.d x) c
theorem ed_glob {x : Str} {v : V} {u : Value} {d : D} (hg : Gl X x) (hm : X.mg x = some u) (r : RelV v u) (hd : ∀ F μ, Rep X.K F μ v d) (hdb : (x == ("__debug__" : Str)) = false := by decide) : ED X W (.Name x pos) (tC v) (dK d) :=
  ⟨pe_glob hg hm r hdb, fun Z F μ c σ H Q R p => p F μ H (Le.refl _ _) R v (.d (hd F μ))⟩
theorem ed_bltn {x : Str} {v : V} {u : Value} (hg : Gl X x) (hm : X.mg x = none) (hv : bootBuiltins x = some u) (r : RelV v u) (hn : x ≠ "__name__" := by decide) (hdb : (x == ("__debug__" : Str)) = false := by decide) : ED X W (.Name x pos) (tC v) (dC v) :=
  ⟨pe_bltn hg hm hv r hn hdb, ev_c⟩

/-! ### operations of two operands -/
def dOp (g : O → O → M D) (da db : M O) : M D := M.bind da fun x => M.bind db fun y => g x y
def R2S (K : PySem.W.Frag) (W : WX) (r : R2) (g : O → O → M D) : Prop := ∀ (Z F : Hp) (μ : List Addr) (c : Stt) (σ : St) (H : Hp) (Q : VK) (x y : V) (a b : O), Rel K Z F μ c σ H → RepO K F μ σ x a → RepO K F μ σ y b →
  Post K Z F μ σ W (g a b c) (fun d _ F' μ' H' => ∀ v, Rep K F' μ' v d → Q v H') → r x y H Q
theorem ev_op {K : PySem.W.Frag} {r : R2} {g : O → O → M D} {da db : M O} (hr : R2S K W r g) (ha : EvE K W ta da) (hb : EvE K W tb db) : EvD K W (tOp r ta tb) (dOp g da db) := fun Z F μ c σ H Q R p =>
  ha Z F μ c σ H _ R (p.bind.imp fun o c1 F1 μ1 H1 l1 R1 p1 v1 r1 =>
    hb Z F1 μ1 c1 σ H1 _ R1 (p1.bind.imp fun o2 c2 F2 μ2 H2 l2 R2 p2 v2 r2 => hr Z F2 μ2 c2 σ H2 Q v1 v2 o o2 R2 (r1.mono l2) r2 p2))
theorem dd_op {op : Operator} {r : R2} {g : O → O → M D} {da db : M O} (ho : OpR X (binaryOp op) r) (hr : R2S X.K W r g) (ha : ED X W a ta da) (hb : ED X W b tb db) : DD X W (.BinOp a op b pos) (tOp r ta tb) (dOp g da db) :=
  ⟨pe_op ho ha.pe hb.pe, ev_op hr ha.ev hb.ev⟩
def gOr (g g' : O → O → M D) : O → O → M D := fun a b c => match g a b c with
  | .no => g' a b c
  | x => x
theorem R2S.or {K : PySem.W.Frag} {r r' : R2} {g g' : O → O → M D} (h : R2S K W r g) (h' : R2S K W r' g') : R2S K W (fun x y H Q => r x y H Q ∨ r' x y H Q) (gOr g g') := fun Z F μ c σ H Q x y a b R rx ry p => by
  unfold gOr at p
  cases e : g a b c with
  | no => rw [e] at p; exact .inr (h' Z F μ c σ H Q x y a b R rx ry p)
  | ok _ _ => rw [e] at p; exact .inl (h Z F μ c σ H Q x y a b R rx ry (by rw [e]; exact p))
  | ex _ _ => rw [e] at p; exact .inl (h Z F μ c σ H Q x y a b R rx ry (by rw [e]; exact p))
/-- two ints -/
def gI (f : Int → Int → Option V) : O → O → M D := fun a b c => match a, b with
  | .d (.v (.int i)), .d (.v (.int j)) => match f i j with
    | some v => .ok (.v v) c
    | none => .no
  | _, _ => .no
theorem r2_int {K : PySem.W.Frag} {r : R2} {f : Int → Int → Option V} (h : ∀ i j v H Q, f i j = some v → Q v H → r (.int i) (.int j) H Q) : R2S K W r (gI f) := fun Z F μ c σ H Q x y a b R rx ry p => by
  unfold gI at p
  split at p
  · next i j =>
    cases rx with
    | d rx =>
      cases rx
      cases ry with
      | d ry =>
        cases ry
        cases e : f i j with
        | none => rw [e] at p; exact p.elim
        | some v => rw [e] at p; exact h i j v H Q e (p F μ H (Le.refl _ _) R v (.v v))
  · exact p.elim
/-- two texts -/
def gS (f : Str → Str → Option V) : O → O → M D := fun a b c => match a, b with
  | .d (.v (.str i)), .d (.v (.str j)) => match f i j with
    | some v => .ok (.v v) c
    | none => .no
  | _, _ => .no
theorem r2_str {K : PySem.W.Frag} {r : R2} {f : Str → Str → Option V} (h : ∀ i j v H Q, f i j = some v → Q v H → r (.str i) (.str j) H Q) : R2S K W r (gS f) := fun Z F μ c σ H Q x y a b R rx ry p => by
  unfold gS at p
  split at p
  · next i j =>
    cases rx with
    | d rx =>
      cases rx
      cases ry with
      | d ry =>
        cases ry
        cases e : f i j with
        | none => rw [e] at p; exact p.elim
        | some v => rw [e] at p; exact h i j v H Q e (p F μ H (Le.refl _ _) R v (.v v))
  · exact p.elim
def gCat : O → O → M D := fun a b c => match lstD c a, lstD c b with
  | some ds, some es => if ds.length + es.length ≤ 1000000 then .ok (.lst (ds ++ es)) c else .no
  | _, _ => .no
theorem small6 {n : Nat} (h : n ≤ 1000000) : n ≤ sizeLine := Nat.le_trans h (by decide)
theorem r2_cat {K : PySem.W.Frag} : R2S K W rCat gCat := fun Z F μ c σ H Q x y a b R rx ry p => by
  unfold gCat at p
  split at p
  · next ds es e1 e2 =>
    obtain ⟨l, vs, rfl, h1, q1⟩ := lst_at R rx e1
    obtain ⟨m, ws, rfl, h2, q2⟩ := lst_at R ry e2
    split at p
    · next hz =>
      refine ⟨l, m, vs, ws, rfl, rfl, h1, h2, small6 (by rw [q1.length, q2.length]; exact hz), fun t ht => ?_⟩
      obtain ⟨R2, l2⟩ := R.new (o := .lst (vs ++ ws)) ht
      exact p _ _ _ l2 R2 _ (.lst upd_same ((q1.append q2).mono l2))
    · exact p.elim
  · exact p.elim
def gCatT : O → O → M D := fun a b c => match tupD a, tupD b with
  | some [], some [] => .ok (.tup []) c
  | some (d :: ds), some es => if (d :: ds).length + es.length ≤ 1000000 then .ok (.tup ((d :: ds) ++ es)) c else .no
  | _, _ => .no
def gAdd : O → O → M D := gOr (gI fun i j => some (.int (i + j))) (gOr (gS fun x y => if x.length + y.length ≤ 1000000 then some (.str (x ++ y)) else none) gCat)
def rAddA : R2 := fun x y H Q => rI0 (fun i j => .int (i + j)) x y H Q ∨ ((∃ i j, x = .str i ∧ y = .str j ∧ i.length + j.length ≤ sizeLine ∧ Q (.str (i ++ j)) H) ∨ rCat x y H Q)
theorem dd_add {da db : M O} (ha : ED X W a ta da) (hb : ED X W b tb db) : DD X W (.BinOp a .Add b pos) (tOp rAddA ta tb) (dOp gAdd da db) :=
  dd_op (OpR.or op_add (OpR.or op_add_str op_cat)) (R2S.or (r2_int fun i j v H Q e q => ⟨i, j, rfl, rfl, by cases e; exact q⟩) (R2S.or (r2_str fun i j v H Q e q => by
    split at e
    · next hz => cases e; exact ⟨i, j, rfl, rfl, small6 hz, q⟩
    · cases e) r2_cat)) ha hb
def gSubI : O → O → M D := gI fun i j => some (.int (i - j))
def rSubA : R2 := rI0 fun i j => .int (i - j)
theorem dd_sub {da db : M O} (ha : ED X W a ta da) (hb : ED X W b tb db) : DD X W (.BinOp a .Sub b pos) (tOp rSubA ta tb) (dOp gSubI da db) :=
  dd_op op_sub (r2_int fun i j v H Q e q => ⟨i, j, rfl, rfl, by cases e; exact q⟩) ha hb
/-- a product that has room -/
def mulOk (i j : Int) : Prop := CMul i j ∨ CMulW i j
instance (i j : Int) : Decidable (mulOk i j) := by
  unfold mulOk CMul CMulW
  infer_instance
theorem op_mulA : OpR X (binaryOp .Mult) (rI mulOk fun i j => .int (i * j)) := opI fun _ _ _ _ _ _ _ hc q => PyProof.Rows.mul_int q (by
  rcases hc with h | h
  · exact h.ok
  · exact h.ok)
def gRep : O → O → M D := fun a b c => match lstD c a, b with
  | some ds, .d (.v (.int k)) => if -(2 ^ 63) ≤ k ∧ k < 2 ^ 63 ∧ ds.length * k.toNat ≤ 1000000 then .ok (.lst (List.replicate k.toNat ds).flatten) c else .no
  | _, _ => .no
theorem r2_rep {K : PySem.W.Frag} : R2S K W rRep gRep := fun Z F μ c σ H Q x y a b R rx ry p => by
  unfold gRep at p
  split at p
  · next ds k e1 =>
    obtain ⟨l, vs, rfl, h1, q1⟩ := lst_at R rx e1
    cases ry with
    | d ry =>
      cases ry
      split at p
      · next hz =>
        refine ⟨l, k, vs, rfl, rfl, h1, hz.1, hz.2.1, small6 (by rw [q1.length]; exact hz.2.2), fun t ht => ?_⟩
        obtain ⟨R2, l2⟩ := R.new (o := .lst (List.replicate k.toNat vs).flatten) ht
        exact p _ _ _ l2 R2 _ (.lst upd_same ((q1.rep k.toNat).mono l2))
      · exact p.elim
  · exact p.elim
def gMul : O → O → M D := gOr (gI fun i j => if mulOk i j then some (.int (i * j)) else none) gRep
def rMulA : R2 := fun x y H Q => rI mulOk (fun i j => .int (i * j)) x y H Q ∨ rRep x y H Q
theorem dd_mul {da db : M O} (ha : ED X W a ta da) (hb : ED X W b tb db) : DD X W (.BinOp a .Mult b pos) (tOp rMulA ta tb) (dOp gMul da db) :=
  dd_op (OpR.or op_mulA op_rep) (R2S.or (r2_int fun i j v H Q e q => by
    split at e
    · next hz => cases e; exact ⟨i, j, rfl, rfl, hz, q⟩
    · cases e) r2_rep) ha hb
/-- a divisor that is served -/
def divOk (j : Int) : Prop := j ≠ 0 ∧ j.natAbs.log2 < 9000
instance (j : Int) : Decidable (divOk j) := by
  unfold divOk
  infer_instance
theorem op_fdivA : OpR X (binaryOp .FloorDiv) (rI (fun _ j => divOk j) fun i j => .int (i.fdiv j)) := opI fun i j _ _ _ _ _ hc q =>
  PyProof.Rows.floordiv_int hc.1 q (.inl (PyProof.noPylong_of_log2 hc.2))
def gDiv : O → O → M D := gI fun i j => if divOk j then some (.int (i.fdiv j)) else none
def rDivA : R2 := rI (fun _ j => divOk j) fun i j => .int (i.fdiv j)
theorem dd_div {da db : M O} (ha : ED X W a ta da) (hb : ED X W b tb db) : DD X W (.BinOp a .FloorDiv b pos) (tOp rDivA ta tb) (dOp gDiv da db) :=
  dd_op op_fdivA (r2_int fun i j v H Q e q => by
    split at e
    · next hz => cases e; exact ⟨i, j, rfl, rfl, hz, q⟩
    · cases e) ha hb
def gMod : O → O → M D := gI fun i j => if j ≠ 0 then some (.int (i.fmod j)) else none
def rModA : R2 := rI (fun _ j => j ≠ 0) fun i j => .int (i.fmod j)
theorem dd_mod {da db : M O} (ha : ED X W a ta da) (hb : ED X W b tb db) : DD X W (.BinOp a .Mod b pos) (tOp rModA ta tb) (dOp gMod da db) :=
  dd_op op_modN (r2_int fun i j v H Q e q => by
    split at e
    · next hz => cases e; exact ⟨i, j, rfl, rfl, hz, q⟩
    · cases e) ha hb
instance (i j : Int) : Decidable (CPow i j) := by
  unfold CPow
  infer_instance
def gPow : O → O → M D := gI fun i j => if CPow i j then some (.int (i ^ j.toNat)) else none
def rPowA : R2 := rI CPow fun i j => .int (i ^ j.toNat)
theorem dd_pow {da db : M O} (ha : ED X W a ta da) (hb : ED X W b tb db) : DD X W (.BinOp a .Pow b pos) (tOp rPowA ta tb) (dOp gPow da db) :=
  dd_op op_pow (r2_int fun i j v H Q e q => by
    split at e
    · next hz => cases e; exact ⟨i, j, rfl, rfl, hz, q⟩
    · cases e) ha hb
/-- -a -/
def dNeg (da : M O) : M D := M.bind da fun a c => match a with
  | .d (.v (.int i)) => .ok (.v (.int (-i))) c
  | _ => .no
theorem dd_neg {da : M O} (ha : ED X W a ta da) : DD X W (.UnaryOp .USub a pos) (tUn (rU fun i => .int (-i)) ta) (dNeg da) := by
  refine ⟨pe_un un_neg ha.pe, fun Z F μ c σ H Q R p => ha.ev Z F μ c σ H _ R (p.bind.imp fun o c1 F1 μ1 H1 l1 R1 p1 v1 r1 => ?_)⟩
  split at p1
  · cases r1 with
    | d r => cases r; exact ⟨_, rfl, p1 F1 μ1 H1 (Le.refl _ _) R1 _ (.v _)⟩
  · exact p1.elim

/-! ### items, lengths -/
def gIx : O → O → M D := fun a b c => match b with
  | .d (.v (.int i)) => match a with
    | .d (.v (.str x)) => if x.length ≤ 1000000 then match atI x.cps.toList i with
        | some k => .ok (.v (.str ⟨#[k]⟩)) c
        | none => .no
      else .no
    | a => match seqD c a with
      | some ds => match atI ds i with
        | some d => .ok d c
        | none => .no
      | none => .no
  | _ => .no
theorem reps_atI {K : PySem.W.Frag} {F : Hp} {μ : List Addr} {vs : List V} {ds : List D} {i : Int} {d : D} (r : Reps K F μ vs ds) (e : atI ds i = some d) : ∃ v, atI vs i = some v ∧ Rep K F μ v d := by
  unfold atI at e ⊢
  rw [r.length]
  cases q : ixN ds.length i with
  | none => rw [q] at e; cases e
  | some j =>
    rw [q] at e
    exact r.get e
theorem r2_ix {K : PySem.W.Frag} : R2S K W (rIx K) gIx := fun Z F μ c σ H Q x y a b R rx ry p => by
  unfold gIx at p
  split at p
  · next i =>
    cases ry with
    | d ry =>
      cases ry
      split at p
      · next z =>
        cases rx with
        | d rx =>
          cases rx
          split at p
          · next hz =>
            split at p
            · next k hk => exact .inr (.inr ⟨z, i, k, rfl, rfl, small6 hz, hk, p F μ H (Le.refl _ _) R _ (.v _)⟩)
            · exact p.elim
          · exact p.elim
      · split at p
        · next ds hs =>
          split at p
          · next d hd =>
            obtain ⟨l, vs, rfl, h1, q1⟩ := seq_at R rx hs
            obtain ⟨v, hv, rv⟩ := reps_atI q1 hd
            rcases h1 with h1 | h1
            · exact .inl ⟨l, vs, i, v, rfl, rfl, h1, hv, p F μ H (Le.refl _ _) R _ rv⟩
            · exact .inr (.inl ⟨l, vs, i, v, rfl, rfl, h1, hv, p F μ H (Le.refl _ _) R _ rv⟩)
          · exact p.elim
        · exact p.elim
  · exact p.elim
theorem dd_ix {K : PySem.W.Frag} {da db : M O} (ha : ED X W a ta da) (hb : ED X W b tb db) (hs : PlainIx b) (hK : X.K = K := by rfl) : DD X W (.Subscript a b pos) (tOp (rIx K) ta tb) (dOp gIx da db) := by
  subst hK
  exact ⟨pe_ix ix_seq ha.pe hb.pe hs, ev_op r2_ix ha.ev hb.ev⟩
/-- a built-in of one operand -/
def C1S (K : PySem.W.Frag) (W : WX) (r : List V → Hp → VK → Prop) (g : O → M D) : Prop := ∀ (Z F : Hp) (μ : List Addr) (c : Stt) (σ : St) (H : Hp) (Q : VK) (x : V) (a : O), Rel K Z F μ c σ H → RepO K F μ σ x a →
  Post K Z F μ σ W (g a c) (fun d _ F' μ' H' => ∀ v, Rep K F' μ' v d → Q v H') → r [x] H Q
theorem ev_c1 {K : PySem.W.Frag} {r : List V → Hp → VK → Prop} {g : O → M D} {da : M O} (hr : C1S K W r g) (ha : EvE K W ta da) : EvD K W (tCB r (tCons ta tNil)) (M.bind da g) := fun Z F μ c σ H Q R p =>
  ha Z F μ c σ H _ R (p.bind.imp fun o c1 F1 μ1 H1 l1 R1 p1 v1 r1 => hr Z F1 μ1 c1 σ H1 Q v1 o R1 r1 p1)
/-- a built-in's rule: of the text's machine, of the image -/
structure B1 (X : Cx) (W : WX) (f : Value) (r : List V → Hp → VK → Prop) (g : O → M D) : Prop where
  c : CallR X f r
  g : C1S X.K W r g
theorem dd_b1 {id : String} {x : Str} {p : Pos} {r : List V → Hp → VK → Prop} {g : O → M D} {da : M O} (hc : B1 X W (.builtin id) r g) (hg : Gl X x) (hm : X.mg x = none) (hv : bootBuiltins x = some (.builtin id)) (ha : ED X W a ta da)
    (hs : starEach [a] X.env = (false, eval a X.env) :: starEach [] X.env := by rfl) (hn : x ≠ "__name__" := by decide) (hdb : (x == ("__debug__" : Str)) = false := by decide)
    (he : starEach [a] X.env = (false, eval a X.env) :: starEach [] X.env := by rfl) (hpl : (backTo pos (starEach [] X.env)).any (·.1) = false := by rfl) :
    DD X W (.Call (.Name x p) [a] [] pos) (tCB r (tCons ta tNil)) (M.bind da g) := ⟨pe_callB hc.c hg hm hv (pa_cons ha.pe pa_nil hs) hn hdb he hpl, ev_c1 hc.g ha.ev⟩
theorem dd_t1 {T : String} {x : Str} {p : Pos} {r : List V → Hp → VK → Prop} {g : O → M D} {da : M O} (hc : B1 X W (.type T) r g) (hg : Gl X x) (hm : X.mg x = none) (hv : bootBuiltins x = some (.type T)) (ha : ED X W a ta da)
    (hs : starEach [a] X.env = (false, eval a X.env) :: starEach [] X.env := by rfl) (hn : x ≠ "__name__" := by decide) (hdb : (x == ("__debug__" : Str)) = false := by decide)
    (he : starEach [a] X.env = (false, eval a X.env) :: starEach [] X.env := by rfl) (hpl : (backTo pos (starEach [] X.env)).any (·.1) = false := by rfl) :
    DD X W (.Call (.Name x p) [a] [] pos) (tCB r (tCons ta tNil)) (M.bind da g) := ⟨pe_callTy hc.c hg hm hv (pa_cons ha.pe pa_nil hs) hn hdb he hpl, ev_c1 hc.g ha.ev⟩
def gLen : O → M D := fun a c => match a with
  | .d (.v (.str x)) => if x.length ≤ 1000000 then .ok (.v (.int x.length)) c else .no
  | a => match seqD c a with
    | some ds => .ok (.v (.int ds.length)) c
    | none => .no
theorem c1_len {K : PySem.W.Frag} : C1S K W (fun xs H Q => ∃ x n, xs = [x] ∧ LenV K x H n ∧ Q (.int n) H) gLen := fun Z F μ c σ H Q x a R rx p => by
  unfold gLen at p
  split at p
  · next z =>
    cases rx with
    | d rx =>
      cases rx
      split at p
      · next hz => exact ⟨_, _, rfl, ⟨small6 hz, rfl⟩, p F μ H (Le.refl _ _) R _ (.v _)⟩
      · exact p.elim
  · split at p
    · next ds hs =>
      obtain ⟨l, vs, rfl, h1, q1⟩ := seq_at R rx hs
      refine ⟨_, ds.length, rfl, ?_, p F μ H (Le.refl _ _) R _ (.v _)⟩
      rcases h1 with h1 | h1
      · exact .inl ⟨vs, h1, q1.length.symm⟩
      · exact .inr ⟨vs, h1, q1.length.symm⟩
    · exact p.elim
def absZ (i : Int) : Int := if i < 0 then -i else i
def gAbs : O → M D := fun a c => match a with
  | .d (.v (.int i)) => .ok (.v (.int (absZ i))) c
  | _ => .no
theorem c1_abs {K : PySem.W.Frag} : C1S K W (fun xs H Q => ∃ i, xs = [.int i] ∧ Q (.int (if i < 0 then -i else i)) H) gAbs := fun Z F μ c σ H Q x a R rx p => by
  unfold gAbs at p
  split at p
  · cases rx with
    | d rx => cases rx; exact ⟨_, rfl, p F μ H (Le.refl _ _) R _ (.v _)⟩
  · exact p.elim
def gInt1 : O → M D := fun a c => match a with
  | .d (.v (.int i)) => .ok (.v (.int i)) c
  | .d (.v (.bl k)) => .ok (.v (.int (if k then 1 else 0))) c
  | _ => .no
theorem c1_int {K : PySem.W.Frag} : C1S K W (fun xs H Q => (∃ i, xs = [.int i] ∧ Q (.int i) H) ∨ ∃ k, xs = [.bl k] ∧ Q (.int (if k then 1 else 0)) H) gInt1 := fun Z F μ c σ H Q x a R rx p => by
  unfold gInt1 at p
  split at p
  · cases rx with
    | d rx => cases rx; exact .inl ⟨_, rfl, p F μ H (Le.refl _ _) R _ (.v _)⟩
  · cases rx with
    | d rx => cases rx; exact .inr ⟨_, rfl, p F μ H (Le.refl _ _) R _ (.v _)⟩
  · exact p.elim
def gStr1 : O → M D := fun a c => match a with
  | .d (.v (.int i)) => if i.natAbs.log2 < 1920 then .ok (.v (.str (toString i))) c else .no
  | _ => .no
theorem c1_str {K : PySem.W.Frag} : C1S K W (fun xs H Q => ∃ i, xs = [.int i] ∧ i.natAbs.log2 < 1920 ∧ Q (.str (toString i)) H) gStr1 := fun Z F μ c σ H Q x a R rx p => by
  unfold gStr1 at p
  split at p
  · split at p
    · next hz =>
      cases rx with
      | d rx => cases rx; exact ⟨_, rfl, hz, p F μ H (Le.refl _ _) R _ (.v _)⟩
    · exact p.elim
  · exact p.elim
def rLenA (K : PySem.W.Frag) : List V → Hp → VK → Prop := fun xs H Q => ∃ x n, xs = [x] ∧ LenV K x H n ∧ Q (.int n) H
theorem bLen {K : PySem.W.Frag} (hK : X.K = K := by rfl) : B1 X W (.builtin "len") (rLenA K) gLen := by
  subst hK
  exact ⟨call_len, c1_len⟩
def rAbsA : List V → Hp → VK → Prop := fun xs H Q => ∃ i, xs = [.int i] ∧ Q (.int (if i < 0 then -i else i)) H
theorem bAbs : B1 X W (.builtin "abs") rAbsA gAbs := ⟨call_abs, c1_abs⟩
def rIntA : List V → Hp → VK → Prop := fun xs H Q => (∃ i, xs = [.int i] ∧ Q (.int i) H) ∨ ∃ k, xs = [.bl k] ∧ Q (.int (if k then 1 else 0)) H
theorem bInt : B1 X W (.type "int") rIntA gInt1 := ⟨call_int1, c1_int⟩
def rStrA : List V → Hp → VK → Prop := fun xs H Q => ∃ i, xs = [.int i] ∧ i.natAbs.log2 < 1920 ∧ Q (.str (toString i)) H
theorem bStr : B1 X W (.type "str") rStrA gStr1 := ⟨call_str_int, c1_str⟩
end
end My

set_option Elab.async false
set_option linter.all false
set_option maxRecDepth 100000
set_option maxHeartbeats 4000000
/-! F4: comparisons, tests, displays, calls. -/
namespace My
open PySem L2

/-! ### == by data -/
mutual
def pyD : D → Option PyData
  | .v .non => some .none
  | .v (.bl b) => some (.bool b)
  | .v (.int i) => some (.int i)
  | .v (.str x) => some (.str x)
  | .tup ds => (pyDs ds).map .tuple
  | .lst ds => (pyDs ds).map .list
  | .scr ds => (pyDs ds).map .list
  | _ => none
def pyDs : List D → Option (List PyData)
  | [] => some []
  | d :: ds => match pyD d, pyDs ds with
    | some p, some ps => some (p :: ps)
    | _, _ => none
end
/-- an operand as data -/
def pyO (c : Stt) : O → Option PyData
  | .d (.loc n) => match c.S[n]? with
    | some (.lst ds) => (pyDs ds).map .list
    | _ => none
  | .d x => pyD x
  | .sl i => match c.r[i]? with
    | some (.own (.lst ds)) => (pyDs ds).map .list
    | some (.d (.lst ds)) => (pyDs ds).map .list
    | _ => none
section
variable {K : PySem.W.Frag} {Z F : Hp} {μ : List Addr} {c : Stt} {σ : St} {H : Hp} {W : WX}
mutual
theorem dp_of (ex : Same F H) : ∀ {d : D} {v : V} {p : PyData}, Rep K F μ v d → pyD d = some p → Dp K H v p
  | _, _, _, Rep.v x, e => by
    cases x <;> unfold pyD at e <;> cases e <;> constructor
  | _, _, _, .tup (ds := ds) h r, e => by
    unfold pyD at e
    cases q : pyDs ds with
    | none => rw [q] at e; cases e
    | some ps => rw [q] at e; cases e; exact .tup (Same.seqT ex h) (dps_of ex r q)
  | _, _, _, .lst (ds := ds) h r, e => by
    unfold pyD at e
    cases q : pyDs ds with
    | none => rw [q] at e; cases e
    | some ps => rw [q] at e; cases e; exact .lst (.of (ex _ _ h)) (dps_of ex r q)
  | _, _, _, .scr (ds := ds) h r, e => by
    unfold pyD at e
    cases q : pyDs ds with
    | none => rw [q] at e; cases e
    | some ps => rw [q] at e; cases e; exact .lst (ex.seq h) (dps_of ex r q)
  | _, _, _, .dct _ _ _, e => by unfold pyD at e; cases e
  | _, _, _, .ins _ _ _, e => by unfold pyD at e; cases e
  | _, _, _, .loc _, e => by unfold pyD at e; cases e
theorem dps_of (ex : Same F H) : ∀ {ds : List D} {vs : List V} {ps : List PyData}, Reps K F μ vs ds → pyDs ds = some ps → DpAll K H vs ps
  | _, _, _, .nil, e => by unfold pyDs at e; cases e; exact .nil
  | _, _, _, .cons (d := d) (ds := ds) h r, e => by
    unfold pyDs at e
    cases q : pyD d with
    | none => rw [q] at e; cases e
    | some p =>
      rw [q] at e
      cases q2 : pyDs ds with
      | none => rw [q2] at e; cases e
      | some ps => rw [q2] at e; cases e; exact .cons (dp_of ex h q) (dps_of ex r q2)
end
theorem dpO_of {o : O} {v : V} {p : PyData} (R : Rel K Z F μ c σ H) (r : RepO K F μ σ v o) (e : pyO c o = some p) : Dp K H v p := by
  have lists : ∀ {ds : List D}, lstD c o = some ds → (pyDs ds).map PyData.list = some p → Dp K H v p := fun {ds} h1 h2 => by
    obtain ⟨a, vs, rfl, h3, q⟩ := lst_at R r h1
    cases q2 : pyDs ds with
    | none => rw [q2] at h2; cases h2
    | some ps => rw [q2] at h2; cases h2; exact .lst (.of h3) (dps_of R.ex q q2)
  cases o with
  | d x =>
    cases r with
    | d r =>
      cases x with
      | loc n =>
        unfold pyO at e
        dsimp only at e
        split at e
        · next ds hs => exact lists (by unfold lstD; dsimp only; rw [hs]) e
        · cases e
      | _ => exact dp_of R.ex r e
  | sl i =>
    unfold pyO at e
    dsimp only at e
    split at e
    · next ds hs => exact lists (by unfold lstD; dsimp only; rw [hs]) e
    · next ds hs => exact lists (by unfold lstD; dsimp only; rw [hs]) e
    · cases e
mutual
theorem pyD_plain : ∀ {d : D} {p : PyData}, pyD d = some p → p.plain = true
  | .v x, p, e => by
    cases x <;> unfold pyD at e <;> cases e <;> rfl
  | .tup ds, p, e => by
    unfold pyD at e
    cases q : pyDs ds with
    | none => rw [q] at e; cases e
    | some ps =>
      rw [q] at e
      cases e
      show PyData.plain (.tuple ps) = true
      unfold PyData.plain
      exact pyDs_plain q
  | .lst ds, p, e => by
    unfold pyD at e
    cases q : pyDs ds with
    | none => rw [q] at e; cases e
    | some ps =>
      rw [q] at e
      cases e
      show PyData.plain (.list ps) = true
      unfold PyData.plain
      exact pyDs_plain q
  | .scr ds, p, e => by
    unfold pyD at e
    cases q : pyDs ds with
    | none => rw [q] at e; cases e
    | some ps =>
      rw [q] at e
      cases e
      show PyData.plain (.list ps) = true
      unfold PyData.plain
      exact pyDs_plain q
  | .dct _, _, e => by unfold pyD at e; cases e
  | .ins _ _, _, e => by unfold pyD at e; cases e
  | .loc _, _, e => by unfold pyD at e; cases e
theorem pyDs_plain : ∀ {ds : List D} {ps : List PyData}, pyDs ds = some ps → PyData.plainAll ps = true
  | [], ps, e => by unfold pyDs at e; cases e; rfl
  | d :: ds, ps, e => by
    unfold pyDs at e
    cases q : pyD d with
    | none => rw [q] at e; cases e
    | some p =>
      rw [q] at e
      cases q2 : pyDs ds with
      | none => rw [q2] at e; cases e
      | some ps =>
        rw [q2] at e
        cases e
        show (p.plain && PyData.plainAll ps) = true
        rw [pyD_plain q, pyDs_plain q2]
        rfl
end
theorem lists_plain {ds : List D} {p : PyData} (e : (pyDs ds).map PyData.list = some p) : p.plain = true := by
  cases q : pyDs ds with
  | none => rw [q] at e; cases e
  | some ps =>
    rw [q] at e
    cases e
    show PyData.plain (.list ps) = true
    unfold PyData.plain
    exact pyDs_plain q
theorem pyO_plain {o : O} {p : PyData} (e : pyO c o = some p) : p.plain = true := by
  unfold pyO at e
  split at e
  · split at e
    · exact lists_plain e
    · cases e
  · exact pyD_plain e
  · split at e
    · exact lists_plain e
    · exact lists_plain e
    · cases e
def gEq (neg : Bool) : O → O → M D := fun a b c => match pyO c a, pyO c b with
  | some p, some q => if p.depth ≤ 64 then .ok (.v (.bl (if neg then !PyData.eqv p q else PyData.eqv p q))) c else .no
  | _, _ => .no
def rEqP (K : PySem.W.Frag) (neg : Bool) : R2 := fun x y H Q => ∃ d e, Dp K H x d ∧ Dp K H y e ∧ d.plain = true ∧ e.plain = true ∧ d.depth ≤ 64 ∧ Q (.bl (if neg then !PyData.eqv d e else PyData.eqv d e)) H
theorem r2_eq (neg : Bool) : R2S K W (rEqP K neg) (gEq neg) := fun Z F μ c σ H Q x y a b R rx ry p => by
  unfold gEq at p
  split at p
  · next d e h1 h2 =>
    split at p
    · next hs => exact ⟨d, e, dpO_of R rx h1, dpO_of R ry h2, pyO_plain h1, pyO_plain h2, hs, p F μ H (Le.refl _ _) R _ (.v _)⟩
    · exact p.elim
  · exact p.elim
/-- is None -/
def isNon : D → Bool
  | .v x => decide (x = .non)
  | _ => false
def gNone (neg : Bool) : O → O → M D := fun a b c => match b with
  | .d (.v .non) => match a with
    | .d x => .ok (.v (.bl (if neg then !isNon x else isNon x))) c
    | .sl _ => .no
  | _ => .no
def rNoneA (neg : Bool) : R2 := fun x y H Q => y = .non ∧ Q (.bl (if neg then !decide (x = .non) else decide (x = .non))) H
theorem rep_non {v : V} {d : D} (h : Rep K F μ v d) : isNon d = decide (v = .non) := by
  cases h with
  | v x => rfl
  | _ => rfl
theorem r2_none (neg : Bool) : R2S K W (rNoneA neg) (gNone neg) := fun Z F μ c σ H Q x y a b R rx ry p => by
  unfold gNone at p
  split at p
  · cases ry with
    | d ry =>
      cases ry
      refine ⟨rfl, ?_⟩
      split at p
      · cases rx with
        | d rx =>
          have := p F μ H (Le.refl _ _) R _ (.v _)
          rw [rep_non rx] at this
          exact this
      · exact p.elim
  · exact p.elim

def iLt : Int → Int → Option V := fun i j => some (.bl (decide (i < j)))
def iLe : Int → Int → Option V := fun i j => some (.bl (decide (i ≤ j)))
def iGt : Int → Int → Option V := fun i j => some (.bl (decide (j < i)))
def iGe : Int → Int → Option V := fun i j => some (.bl (decide (j ≤ i)))
theorem r2_lt : R2S K W (rI0 fun i j => .bl (decide (i < j))) (gI iLt) := r2_int fun i j v H Q e q => ⟨i, j, rfl, rfl, by cases e; exact q⟩
theorem r2_le : R2S K W (rI0 fun i j => .bl (decide (i ≤ j))) (gI iLe) := r2_int fun i j v H Q e q => ⟨i, j, rfl, rfl, by cases e; exact q⟩
theorem r2_gt : R2S K W (rI0 fun i j => .bl (decide (j < i))) (gI iGt) := r2_int fun i j v H Q e q => ⟨i, j, rfl, rfl, by cases e; exact q⟩
theorem r2_ge : R2S K W (rI0 fun i j => .bl (decide (j ≤ i))) (gI iGe) := r2_int fun i j v H Q e q => ⟨i, j, rfl, rfl, by cases e; exact q⟩
/-- plain flat values -/
def vsD : List D → Option (List V)
  | [] => some []
  | .v x :: ds => if flatV x = true then (vsD ds).map (x :: ·) else none
  | _ :: _ => none
theorem vs_of {F : Hp} {μ : List Addr} : ∀ {ds : List D} {vs xs : List V}, Reps K F μ vs ds → vsD ds = some xs → vs = xs ∧ xs.all flatV = true
  | [], vs, xs, h, e => by cases h; unfold vsD at e; cases e; exact ⟨rfl, rfl⟩
  | .v x :: ds, vs, xs, h, e => by
    cases h with
    | cons h r =>
      cases h
      unfold vsD at e
      split at e
      · next hf =>
        cases q : vsD ds with
        | none => rw [q] at e; cases e
        | some ys =>
          rw [q] at e
          cases e
          obtain ⟨rfl, ha⟩ := vs_of r q
          exact ⟨rfl, by rw [List.all_cons, hf, ha]; rfl⟩
      · cases e
  | .tup _ :: _, _, _, _, e => by unfold vsD at e; cases e
  | .lst _ :: _, _, _, _, e => by unfold vsD at e; cases e
  | .scr _ :: _, _, _, _, e => by unfold vsD at e; cases e
  | .dct _ :: _, _, _, _, e => by unfold vsD at e; cases e
  | .ins _ _ :: _, _, _, _, e => by unfold vsD at e; cases e
  | .loc _ :: _, _, _, _, e => by unfold vsD at e; cases e
def gIn (neg : Bool) : O → O → M D := fun a b c => match a with
  | .d (.v x) => if flatV x = true then match (seqD c b).bind vsD with
      | some xs => .ok (.v (.bl (if neg then !inV x xs else inV x xs))) c
      | none => .no
    else .no
  | _ => .no
theorem r2_in (neg : Bool) : R2S K W (rIn K neg) (gIn neg) := fun Z F μ c σ H Q x y a b R rx ry p => by
  unfold gIn at p
  split at p
  · next z =>
    cases rx with
    | d rx =>
      cases rx
      split at p
      · next hf =>
        split at p
        · next xs hx =>
          cases q : seqD c b with
          | none => rw [q] at hx; cases hx
          | some ds =>
            rw [q] at hx
            obtain ⟨l, vs, rfl, h1, q1⟩ := seq_at R ry q
            obtain ⟨rfl, ha⟩ := vs_of q1 hx
            exact ⟨l, vs, rfl, h1, hf, ha, p F μ H (Le.refl _ _) R _ (.v _)⟩
        · exact p.elim
      · exact p.elim
  · exact p.elim
/-- one sign in a text -/
def gSign (neg : Bool) : O → O → M D := fun a b c => match a, b with
  | .d (.v (.str x)), .d (.v (.str z)) => match x.cps.toList with
    | [k] => .ok (.v (.bl (if neg then !decide (k ∈ z.cps.toList) else decide (k ∈ z.cps.toList)))) c
    | _ => .no
  | _, _ => .no
def rSign (neg : Bool) : R2 := fun x y H Q => ∃ (k : Nat) (z : Str), x = .str ⟨#[k]⟩ ∧ y = .str z ∧ Q (.bl (if neg then !decide (k ∈ z.cps.toList) else decide (k ∈ z.cps.toList))) H
theorem str_one {x : Str} {k : Nat} (h : x.cps.toList = [k]) : x = ⟨#[k]⟩ := by
  obtain ⟨cps⟩ := x
  have : cps = #[k] := by
    have := congrArg List.toArray h
    simpa using this
  rw [this]
theorem r2_sign (neg : Bool) : R2S K W (rSign neg) (gSign neg) := fun Z F μ c σ H Q x y a b R rx ry p => by
  unfold gSign at p
  split at p
  · next x z =>
    cases rx with
    | d rx =>
      cases rx
      cases ry with
      | d ry =>
        cases ry
        split at p
        · next k hk => exact ⟨k, z, by rw [str_one hk], rfl, p F μ H (Le.refl _ _) R _ (.v _)⟩
        · exact p.elim
  · exact p.elim
end

section
variable {X : Cx} {W : WX} {a b : Expr} {t ta tb : TE} {pos : Pos} {da db : M O}
/-- a comparison's rule: of the text's machine, of the image -/
structure CmpR (X : Cx) (W : WX) (op : CmpOp) (r : R2) (g : O → O → M D) : Prop where
  op : OpR X (compareOp op) r
  g : R2S X.K W r g
theorem op_eqP (neg : Bool) (hu : X.A.units + 64 < cLine) : OpR X (compareOp (if neg then .NotEq else .Eq)) (rEqP X.K neg) := by
  intro pins s σ H x y v u Q I rx ry h
  obtain ⟨d, e, hd, he, pd, pe, hz, q⟩ := h
  obtain ⟨as, r1⟩ := Dp.reads I d x v hd rx
  obtain ⟨bs, r2⟩ := Dp.reads I e y u he ry
  have hm : X.A.units + min d.depth e.depth < cLine := by
    have : min d.depth e.depth ≤ d.depth := Nat.min_le_left _ _
    omega
  cases neg with
  | false => exact PySem.SeqAt.eq_plain r1 r2 pd pe hm ⟨.bl _, H, I, rfl, q⟩
  | true => exact PySem.SeqAt.ne_plain r1 r2 pd pe hm ⟨.bl _, H, I, rfl, q⟩
theorem cEq {K : PySem.W.Frag} (hu : X.A.units + 64 < cLine) (hK : X.K = K := by rfl) : CmpR X W .Eq (rEqP K false) (gEq false) := by
  subst hK
  exact ⟨op_eqP false hu, r2_eq false⟩
theorem cNe {K : PySem.W.Frag} (hu : X.A.units + 64 < cLine) (hK : X.K = K := by rfl) : CmpR X W .NotEq (rEqP K true) (gEq true) := by
  subst hK
  exact ⟨op_eqP true hu, r2_eq true⟩
theorem cLt : CmpR X W .Lt (rI0 fun i j => .bl (decide (i < j))) (gI iLt) := ⟨op_lt, r2_lt⟩
theorem cLe : CmpR X W .LtE (rI0 fun i j => .bl (decide (i ≤ j))) (gI iLe) := ⟨op_le, r2_le⟩
theorem cGt : CmpR X W .Gt (rI0 fun i j => .bl (decide (j < i))) (gI iGt) := ⟨op_gt, r2_gt⟩
theorem cGe : CmpR X W .GtE (rI0 fun i j => .bl (decide (j ≤ i))) (gI iGe) := ⟨op_ge, r2_ge⟩
theorem cIs : CmpR X W .Is (rNoneA false) (gNone false) := ⟨op_isN, r2_none false⟩
theorem cIsNot : CmpR X W .IsNot (rNoneA true) (gNone true) := ⟨op_notN, r2_none true⟩
def rInA (K : PySem.W.Frag) (neg : Bool) : R2 := fun x y H Q => rIn K neg x y H Q ∨ rSign neg x y H Q
theorem cIn {K : PySem.W.Frag} (hK : X.K = K := by rfl) : CmpR X W .In (rInA K false) (gOr (gIn false) (gSign false)) := by
  subst hK
  exact ⟨op_in_seq.or op_in_sign, (r2_in false).or (r2_sign false)⟩
theorem cNotIn {K : PySem.W.Frag} (hK : X.K = K := by rfl) : CmpR X W .NotIn (rInA K true) (gOr (gIn true) (gSign true)) := by
  subst hK
  exact ⟨op_notIn_seq.or op_notIn_sign, (r2_in true).or (r2_sign true)⟩
theorem dd_cmp {op : CmpOp} {r : R2} {g : O → O → M D} (h : CmpR X W op r g) (ha : ED X W a ta da) (hb : ED X W b tb db) (hm : behindInMarks op b = false) : DD X W (.Compare a [op] [b] pos) (tOp r ta tb) (dOp g da db) :=
  ⟨pe_cmpR h.op ha.pe hb.pe hm, ev_op h.g ha.ev hb.ev⟩
/-- what a value is as a test -/
def truD (c : Stt) : O → Option Bool
  | .d (.v .non) => some false
  | .d (.v (.bl b)) => some b
  | .d (.v (.int i)) => some (i != 0)
  | .d (.v (.str x)) => if x.length ≤ 1000000 then some ((x.length : Int) != 0) else none
  | o => (seqD c o).map fun ds => !ds.isEmpty
def gTru (o : O) : M Bool := fun c => match truD c o with
  | some b => .ok b c
  | none => .no
theorem tru_of {K : PySem.W.Frag} {Z F : Hp} {μ : List Addr} {c : Stt} {σ : St} {H : Hp} {v : V} {o : O} {b : Bool} (R : Rel K Z F μ c σ H) (r : RepO K F μ σ v o) (e : truD c o = some b) : TruV K v H b := by
  unfold truD at e
  split at e
  · cases r with | d r => cases r; cases e; rfl
  · cases r with | d r => cases r; cases e; rfl
  · cases r with | d r => cases r; cases e; rfl
  · cases r with
    | d r =>
      cases r
      split at e
      · next hz => cases e; exact ⟨small6 hz, rfl⟩
      · cases e
  · cases q : seqD c o with
    | none => rw [q] at e; cases e
    | some ds =>
      rw [q] at e
      cases e
      obtain ⟨l, vs, rfl, h1, q1⟩ := seq_at R r q
      have el : (!vs.isEmpty) = !ds.isEmpty := by
        have := q1.length
        cases vs <;> cases ds <;> simp_all
      rcases h1 with h1 | h1
      · exact .inl ⟨vs, h1, el.symm⟩
      · exact .inr (.inl ⟨vs, h1, el.symm⟩)
def tTru (K : PySem.W.Frag) (t : TE) : TT := fun σ H Q => t σ H fun x H' => ∃ k, TruV K x H' k ∧ Q k H'
def dTru (a : M O) : M Bool := M.bind a gTru
theorem td_val {K : PySem.W.Frag} {e : Expr} (h : ED X W e t da) (hK : X.K = K := by rfl) (he : ∀ whole, isTrue e X.env whole = (do let v ← whole; standAt e.pos; holding [v] (truthy v)) := by intro _; rfl) : TD X W e (tTru K t) (dTru da) := by
  subst hK
  exact ⟨pt_truth h.pe he, fun Z F μ c σ H Q R p => h.ev Z F μ c σ H _ R (p.bind.imp fun o c1 F1 μ1 H1 l1 R1 p1 v1 r1 => by
    unfold gTru at p1
    split at p1
    · next b hb => exact ⟨b, tru_of R1 r1 hb, p1 F1 μ1 H1 (Le.refl _ _) R1⟩
    · exact p1.elim)⟩
def gBool (x : D) : M Bool := fun c => match x with
  | .v (.bl b) => .ok b c
  | _ => .no
def dCmpT (g : O → O → M D) (a b : M O) : M Bool := M.bind (dOp g a b) gBool
theorem td_cmp {op : CmpOp} {r : R2} {g : O → O → M D} (h : CmpR X W op r g) (ha : ED X W a ta da) (hb : ED X W b tb db) (hm : behindInMarks op b = false) : TD X W (.Compare a [op] [b] pos) (tTest (tOp r ta tb)) (dCmpT g da db) :=
  ⟨pt_cmpR h.op ha.pe hb.pe hm, fun Z F μ c σ H Q R p => ev_op h.g ha.ev hb.ev Z F μ c σ H _ R (p.bind.imp fun x c1 F1 μ1 H1 l1 R1 p1 v1 r1 => by
    unfold gBool at p1
    split at p1
    · cases r1; exact ⟨_, rfl, p1 F1 μ1 H1 (Le.refl _ _) R1⟩
    · exact p1.elim)⟩
/-- a op b op' c -/
def dChain (g g' : O → O → M D) (da db dc : M O) : M D := M.bind da fun x => M.bind db fun y => M.bind (M.bind (g x y) gBool) fun k => if k = true then M.bind dc fun z => g' y z else M.pure (.v (.bl false))
theorem dd_chain {op op' : CmpOp} {r r' : R2} {g g' : O → O → M D} {e : Expr} {tc : TE} {dc : M O} (h : CmpR X W op r g) (h' : CmpR X W op' r' g') (ha : ED X W a ta da) (hb : ED X W b tb db) (hc : ED X W e tc dc)
    (hm : lastMarks [op, op'] [b, e] = false := by rfl) : DD X W (.Compare a [op, op'] [b, e] pos) (tChain r r' ta tb tc) (dChain g g' da db dc) := by
  refine ⟨pe_chain h.op h'.op ha.pe hb.pe hc.pe hm, fun Z F μ c σ H Q R p => ?_⟩
  refine ha.ev Z F μ c σ H _ R (p.bind.imp fun o c1 F1 μ1 H1 l1 R1 p1 v1 r1 => hb.ev Z F1 μ1 c1 σ H1 _ R1 (p1.bind.imp fun o2 c2 F2 μ2 H2 l2 R2 p2 v2 r2 => ?_))
  refine h.g Z F2 μ2 c2 σ H2 _ v1 v2 o o2 R2 (r1.mono l2) r2 (p2.bind.bind.imp fun x c3 F3 μ3 H3 l3 R3 p3 v3 r3 => ?_)
  unfold gBool at p3
  split at p3
  · next k =>
    cases r3
    have p4 := p3 F3 μ3 H3 (Le.refl _ _) R3
    refine ⟨k, rfl, ?_⟩
    cases k with
    | true => exact hc.ev Z F3 μ3 c3 σ H3 _ R3 (p4.bind.imp fun o4 c4 F4 μ4 H4 l4 R4 p5 v4 r4 => h'.g Z F4 μ4 c4 σ H4 Q v2 v4 o2 o4 R4 ((r2.mono l3).mono l4) r4 p5)
    | false => exact p4 F3 μ3 H3 (Le.refl _ _) R3 _ (.v _)
  · exact p3.elim
theorem td_chain {op op' : CmpOp} {r r' : R2} {g g' : O → O → M D} {e : Expr} {tc : TE} {dc : M O} (h : CmpR X W op r g) (h' : CmpR X W op' r' g') (ha : ED X W a ta da) (hb : ED X W b tb db) (hc : ED X W e tc dc)
    (hm : lastMarks [op, op'] [b, e] = false := by rfl) : TD X W (.Compare a [op, op'] [b, e] pos) (tTest (tChain r r' ta tb tc)) (M.bind (dChain g g' da db dc) gBool) :=
  ⟨pt_chain h.op h'.op ha.pe hb.pe hc.pe hm, fun Z F μ c σ H Q R p => (dd_chain (pos := pos) h h' ha hb hc hm).ev Z F μ c σ H _ R (p.bind.imp fun x c1 F1 μ1 H1 l1 R1 p1 v1 r1 => by
    unfold gBool at p1
    split at p1
    · cases r1; exact ⟨_, rfl, p1 F1 μ1 H1 (Le.refl _ _) R1⟩
    · exact p1.elim)⟩
theorem td_of {e : Expr} {dd : M D} (hp : PT X e (tTest t)) (hv : EvD X.K W t dd) : TD X W e (tTest t) (M.bind dd gBool) := ⟨hp, fun Z F μ c σ H Q R p => hv Z F μ c σ H _ R (p.bind.imp fun x c1 F1 μ1 H1 l1 R1 p1 v1 r1 => by
    unfold gBool at p1
    split at p1
    · cases r1; exact ⟨_, rfl, p1 F1 μ1 H1 (Le.refl _ _) R1⟩
    · exact p1.elim)⟩

/-! ### and, or, not, if -/
variable {A B : TT} {dA dB : M Bool} {rest : List Expr}
theorem wd_and1 (ha : TD X W a A dA) : WD X W (.BoolOp .And [a] pos) A dA := ⟨pw_and1 ha.pt, ha.ev⟩
theorem wd_or1 (ha : TD X W a A dA) : WD X W (.BoolOp .Or [a] pos) A dA := ⟨pw_or1 ha.pt, ha.ev⟩
def dAnd (a b : M Bool) : M Bool := M.bind a fun k => if k = true then b else M.pure false
def dOr (a b : M Bool) : M Bool := M.bind a fun k => if k = true then M.pure true else b
def dNotT (a : M Bool) : M Bool := M.bind a fun k => M.pure (!k)
theorem wd_and (ha : TD X W a A dA) (hb : WD X W (.BoolOp .And (b :: rest) pos) B dB) : WD X W (.BoolOp .And (a :: b :: rest) pos) (tAnd A B) (dAnd dA dB) :=
  ⟨pw_and ha.pt hb.pw, fun Z F μ c σ H Q R p => ha.ev Z F μ c σ H _ R (p.bind.imp fun k c1 F1 μ1 H1 l1 R1 p1 => by
    cases k with
    | true => exact hb.ev Z F1 μ1 c1 σ H1 Q R1 p1
    | false => exact p1 F1 μ1 H1 (Le.refl _ _) R1)⟩
theorem wd_or (ha : TD X W a A dA) (hb : WD X W (.BoolOp .Or (b :: rest) pos) B dB) : WD X W (.BoolOp .Or (a :: b :: rest) pos) (tOr A B) (dOr dA dB) :=
  ⟨pw_or ha.pt hb.pw, fun Z F μ c σ H Q R p => ha.ev Z F μ c σ H _ R (p.bind.imp fun k c1 F1 μ1 H1 l1 R1 p1 => by
    cases k with
    | true => exact p1 F1 μ1 H1 (Le.refl _ _) R1
    | false => exact hb.ev Z F1 μ1 c1 σ H1 Q R1 p1)⟩
theorem td_w {e : Expr} (h : WD X W e A dA) : TD X W e A dA := ⟨h.pw.pt, h.ev⟩
theorem td_not (ha : TD X W a A dA) : TD X W (.UnaryOp .Not a pos) (tNot A) (dNotT dA) :=
  ⟨pt_not ha.pt, fun Z F μ c σ H Q R p => ha.ev Z F μ c σ H _ R (p.bind.imp fun k c1 F1 μ1 H1 l1 R1 p1 => p1 F1 μ1 H1 (Le.refl _ _) R1)⟩
/-- as values: all but the last True or False -/
def gBoolO (o : O) : M Bool := fun c => match o with
  | .d (.v (.bl b)) => .ok b c
  | _ => .no
theorem gBoolO_ok {K : PySem.W.Frag} {Z F : Hp} {μ : List Addr} {c : Stt} {σ : St} {H : Hp} {v : V} {o : O} {P : Bool → Stt → Hp → List Addr → Hp → Prop} (R : Rel K Z F μ c σ H) (r : RepO K F μ σ v o) (p : Post K Z F μ σ W (gBoolO o c) P) : ∃ b, v = .bl b ∧ P b c F μ H := by
  unfold gBoolO at p
  split at p
  · cases r with | d r => cases r; exact ⟨_, rfl, p F μ H (Le.refl _ _) R⟩
  · exact p.elim
theorem ed_one {op : BoolOp} (h : ED X W a ta da) : ED X W (.BoolOp op [a] pos) ta da := ⟨pe_one h.pe, h.ev⟩
def dAndV (a b : M O) : M O := M.bind (M.bind a gBoolO) fun k => if k = true then b else M.pure (.d (.v (.bl false)))
def dOrV (a b : M O) : M O := M.bind (M.bind a gBoolO) fun k => if k = true then M.pure (.d (.v (.bl true))) else b
def dNotV (a : M O) : M O := M.bind (M.bind a gBoolO) fun k => M.pure (.d (.v (.bl (!k))))
theorem ed_and (ha : ED X W a ta da) (hb : ED X W (.BoolOp .And (b :: rest) pos) tb db) : ED X W (.BoolOp .And (a :: b :: rest) pos) (tAndV ta tb) (dAndV da db) :=
  ⟨pe_and ha.pe hb.pe, fun Z F μ c σ H Q R p => ha.ev Z F μ c σ H _ R (p.bind.bind.imp fun o c1 F1 μ1 H1 l1 R1 p1 v1 r1 => by
    obtain ⟨k, rfl, p2⟩ := gBoolO_ok R1 r1 p1
    refine ⟨k, rfl, ?_⟩
    cases k with
    | true => exact hb.ev Z F1 μ1 c1 σ H1 Q R1 p2
    | false => exact p2 F1 μ1 H1 (Le.refl _ _) R1 _ (.d (.v _)))⟩
theorem ed_or (ha : ED X W a ta da) (hb : ED X W (.BoolOp .Or (b :: rest) pos) tb db) : ED X W (.BoolOp .Or (a :: b :: rest) pos) (tOrV ta tb) (dOrV da db) :=
  ⟨pe_or ha.pe hb.pe, fun Z F μ c σ H Q R p => ha.ev Z F μ c σ H _ R (p.bind.bind.imp fun o c1 F1 μ1 H1 l1 R1 p1 v1 r1 => by
    obtain ⟨k, rfl, p2⟩ := gBoolO_ok R1 r1 p1
    refine ⟨k, rfl, ?_⟩
    cases k with
    | true => exact p2 F1 μ1 H1 (Le.refl _ _) R1 _ (.d (.v _))
    | false => exact hb.ev Z F1 μ1 c1 σ H1 Q R1 p2)⟩
theorem ed_not (ha : ED X W a ta da) : ED X W (.UnaryOp .Not a pos) (tNotV ta) (dNotV da) :=
  ⟨pe_not ha.pe, fun Z F μ c σ H Q R p => ha.ev Z F μ c σ H _ R (p.bind.bind.imp fun o c1 F1 μ1 H1 l1 R1 p1 v1 r1 => by
    obtain ⟨k, rfl, p2⟩ := gBoolO_ok R1 r1 p1
    exact ⟨k, rfl, p2 F1 μ1 H1 (Le.refl _ _) R1 _ (.d (.v _))⟩)⟩
def dIf (t : M Bool) (a b : M O) : M O := M.bind t fun k => if k = true then a else b
theorem ed_if {e : Expr} (hc : TD X W e A dA) (ha : ED X W a ta da) (hb : ED X W b tb db) : ED X W (.IfExp e a b pos) (tIf A ta tb) (dIf dA da db) :=
  ⟨pe_ifExp hc.pt ha.pe hb.pe, fun Z F μ c σ H Q R p => hc.ev Z F μ c σ H _ R (p.bind.imp fun k c1 F1 μ1 H1 l1 R1 p1 => by
    cases k with
    | true => exact ha.ev Z F1 μ1 c1 σ H1 Q R1 p1
    | false => exact hb.ev Z F1 μ1 c1 σ H1 Q R1 p1)⟩

/-! ### rows of operands, displays, calls -/
variable {es : List Expr} {tr : TA} {dr : M (List D)}
def dNil : M (List D) := M.pure []
def dCons (dx : M D) (dr : M (List D)) : M (List D) := M.bind dx fun x => M.bind dr fun xs => M.pure (x :: xs)
theorem ad_nil : AD X W [] tNil dNil := ⟨pa_nil, fun Z F μ c σ H Q R p => p F μ H (Le.refl _ _) R [] .nil⟩
theorem ad_cons {dx : M D} (ha : DD X W a ta dx) (hr : AD X W es tr dr) (hs : starEach (a :: es) X.env = (false, eval a X.env) :: starEach es X.env := by rfl) : AD X W (a :: es) (tCons ta tr) (dCons dx dr) :=
  ⟨pa_cons ha.pe hr.pa hs, fun Z F μ c σ H Q R p => ha.ev Z F μ c σ H _ R (p.bind.imp fun x c1 F1 μ1 H1 l1 R1 p1 v1 r1 => hr.ev Z F1 μ1 c1 σ H1 _ R1 (p1.bind.imp fun xs c2 F2 μ2 H2 l2 R2 p2 vs rs => p2 F2 μ2 H2 (Le.refl _ _) R2 _ (.cons (r1.mono l2) rs)))⟩
def dTup (dr : M (List D)) : M D := M.bind dr fun ds c => if ds.length ≤ 1000000 then .ok (.tup ds) c else .no
theorem dd_tup {k : Nat} (h : AD X W es tr dr) : DD X W (.Tuple es k pos) (tTup tr) (dTup dr) :=
  ⟨pe_tup h.pa, fun Z F μ c σ H Q R p => h.ev Z F μ c σ H _ R (p.bind.imp fun ds c1 F1 μ1 H1 l1 R1 p1 vs rs => by
    split at p1
    · next hz =>
      refine ⟨small6 (by rw [rs.length]; exact hz), fun q hq => ?_⟩
      obtain ⟨R2, l2⟩ := R1.new (o := .tup vs) hq
      exact p1 _ _ _ l2 R2 _ (.tup (.of upd_same) (rs.mono l2))
    · exact p1.elim)⟩
def dLst (dr : M (List D)) : M (List D) := M.bind dr fun ds c => if ds.length ≤ 1000000 then .ok ds c else .no
theorem en_lst (h : AD X W es tr dr) : EN X W (.List es pos) (tLst tr) (dLst dr) :=
  ⟨pe_lst h.pa, fun Z F μ c σ H Q R p => h.ev Z F μ c σ H _ R (p.bind.imp fun ds c1 F1 μ1 H1 l1 R1 p1 vs rs => by
    split at p1
    · next hz =>
      refine ⟨small6 (by rw [rs.length]; exact hz), fun q hq => ?_⟩
      exact p1 F1 μ1 _ (Le.refl _ _) (R1.up (same_new hq)) q vs upd_same (R1.nob hq) rs
    · exact p1.elim)⟩

/-- what a def computes -/
inductive RF where
  | ok (d : D) (S : List Cell)
  | ex (e : Exn) (S : List Cell)
  | no
def PostF (K : PySem.W.Frag) (Z F : Hp) (μ : List Addr) (r : RF) (Q : VK) (E : XK) : Prop := match r with
  | .ok d S => ∀ v F' μ' H', Le F μ F' μ' → Rel K Z F' μ' ⟨[], S⟩ [] H' → Rep K F' μ' v d → Q v H'
  | .ex e S => ∀ cls od F' μ' H', Le F μ F' μ' → Rel K Z F' μ' ⟨[], S⟩ [] H' → RepX K F' μ' cls od e → E cls od H'
  | .no => False
abbrev G := List D → List Cell → RF
/-- the promise of a def that computes g of n operands -/
def spG (K : PySem.W.Frag) (g : G) : Sp := fun vs H Q E => ∃ Z F μ S ds, Rel K Z F μ ⟨[], S⟩ [] H ∧ Reps K F μ vs ds ∧ PostF K Z F μ (g ds S) Q E
/-- the caller's own objects are lent to nobody -/
noncomputable def lend (Z : Hp) (c : Stt) (σ : St) (H : Hp) : Hp := fun a => open Classical in if (∃ (i : Nat) (m : Cell), c.r[i]? = some (.own m) ∧ σ[i]? = some (some (.ref a))) then H a else Z a
theorem lend_of {K : PySem.W.Frag} {Z F : Hp} {μ : List Addr} {c : Stt} {σ : St} {H : Hp} (R : Rel K Z F μ c σ H) : Rel K (lend Z c σ H) F μ ⟨[], c.S⟩ [] H := by
  have yes : ∀ a, (∃ (i : Nat) (m : Cell), c.r[i]? = some (.own m) ∧ σ[i]? = some (some (.ref a))) → F a = none := fun a ⟨i, m, q, e⟩ => by
    obtain ⟨a', e1, c1, g1⟩ := R.own i m q
    rw [e] at e1; cases e1
    exact c1.f g1
  refine { ex := R.ex, exz := fun a o e => ?_, fz := fun a o e => ?_, len := rfl, slot := fun i x e => by simp at e, own := fun i x e => by simp at e, dis := fun i j a m m' e => by simp at e, lm := R.lm, sto := fun n a m e1 e2 => ?_, dst := fun i n a m e => by simp at e, ndm := R.ndm }
  · unfold lend at e
    split at e
    · exact e
    · exact R.exz a o e
  · unfold lend at e
    split at e
    · next h => exact yes a h
    · exact R.fz a o e
  · have c1 := R.sto n a m e1 e2
    refine ⟨?_, c1.f, c1.o, c1.l⟩
    unfold lend
    rw [if_neg]
    · exact c1.z
    · rintro ⟨i, m', q, e⟩
      exact R.dst i n a m' q e e1
/-- behind the call -/
theorem lend_back {K : PySem.W.Frag} {Z F F' : Hp} {μ μ' : List Addr} {c : Stt} {σ : St} {H H' : Hp} {S' : List Cell} (R : Rel K Z F μ c σ H) (le : Le F μ F' μ') (R' : Rel K (lend Z c σ H) F' μ' ⟨[], S'⟩ [] H') : Rel K Z F' μ' ⟨c.r, S'⟩ σ H' := by
  have mine : ∀ {a : Addr} {i : Nat} {m : Cell}, c.r[i]? = some (.own m) → σ[i]? = some (some (.ref a)) → lend Z c σ H a = H a := fun {a i m} q e => by
    unfold lend
    rw [if_pos ⟨i, m, q, e⟩]
  have zs : ∀ a o, Z a = some o → lend Z c σ H a = some o := fun a o e => by
    unfold lend
    split
    · next h =>
      obtain ⟨i, m, q, e1⟩ := h
      obtain ⟨a', e2, c1, _⟩ := R.own i m q
      rw [e1] at e2; cases e2
      rw [c1.z] at e; cases e
    · exact e
  refine { ex := R'.ex, exz := fun a o e => R'.exz a o (zs a o e), fz := fun a o e => R'.fz a o (zs a o e), len := R.len, slot := fun i x e => (let ⟨v, e1, e2⟩ := R.slot i x e; ⟨v, e1, e2.mono le⟩), own := fun i m q => ?_, dis := R.dis, lm := R'.lm, sto := fun n a m e1 e2 => ?_, dst := fun i n a m q e e1 => ?_, ndm := R'.ndm }
  · obtain ⟨a, e, c1, g1⟩ := R.own i m q
    obtain ⟨o, e1, e2⟩ := c1.o
    have l := mine q e
    rw [e1] at l
    exact ⟨a, e, ⟨c1.z, fun _ => R'.fz a o l, ⟨o, R'.exz a o l, e2.mono le⟩, fun g => (lkE g1 g).elim⟩, g1⟩
  · have c1 := R'.sto n a m e1 e2
    refine ⟨?_, c1.f, c1.o, c1.l⟩
    cases hz : Z a with
    | none => rfl
    | some o =>
      have := zs a o hz
      rw [c1.z] at this; cases this
  · obtain ⟨a', e', c1, g1⟩ := R.own i m q
    rw [e] at e'; cases e'
    obtain ⟨o, e2, _⟩ := c1.o
    have l := mine q e
    rw [e2] at l
    have hn : n < S'.length := by
      have h1 : μ'.length = S'.length := R'.lm
      rw [← h1]
      exact (List.getElem?_eq_some_iff.mp e1).1
    have := (R'.sto n a _ e1 (List.getElem?_eq_getElem hn)).z
    rw [l] at this; cases this
/-- what a caller's wish about exceptions takes -/
def Pol (X : Cx) (W : WX) : Prop := ∀ σ, PassesAt (L2.CX X.prog X.w) X σ (WE W σ)
theorem pol_of {X : Cx} {W : WX} (tk : Takes X W) : Pol X W := fun σ => passAt tk σ
abbrev W0 : WX := fun _ _ _ _ => False
theorem pol0 {X : Cx} : Pol X W0 := fun σ pins H s e s' I c => by
  obtain ⟨_, _, _, _, _, _, _, _, _, _, _, _, z⟩ := c
  exact z.elim
def ofF (c : Stt) : RF → R D
  | .ok d S => .ok d ⟨c.r, S⟩
  | .ex e S => .ex e ⟨c.r, S⟩
  | .no => .no
def dCall (g : G) (dr : M (List D)) : M D := M.bind dr fun ds c => ofF c (g ds c.S)
theorem sp_call {K : PySem.W.Frag} {Z F : Hp} {μ : List Addr} {c : Stt} {σ : St} {H : Hp} {g : G} {ds : List D} {vs : List V} {Q : VK} (R : Rel K Z F μ c σ H) (rs : Reps K F μ vs ds)
    (p : Post K Z F μ σ W (ofF c (g ds c.S)) (fun x _ F' μ' H' => ∀ v, Rep K F' μ' v x → Q v H')) : spG K g vs H Q (WE W σ) := by
  refine ⟨lend Z c σ H, F, μ, c.S, ds, lend_of R, rs, ?_⟩
  cases e : g ds c.S with
  | ok d S => rw [e] at p; exact fun v F' μ' H' le R' rv => p F' μ' H' le (lend_back R le R') v rv
  | ex x S => rw [e] at p; exact fun cls od F' μ' H' le R' rv => p cls od F' μ' H' le (lend_back R le R') rv
  | no => rw [e] at p; exact p.elim
theorem dd_call {k : Nat} {f : Addr} {fd : FuncData} {ps : List Str} {g : G} {x : Str} {p : Pos} (Fk : FnOk X.prog X.w X.K X.mg X.base (L2.CX X.prog X.w) k f fd ps (spG X.K g)) (hr : Room k X.A) (hg : Gl X x) (hm : X.mg x = some (.ref f)) (hk : PySem.W.keepIn X.K (.ref f) = true) (hb : Binds X.K fd ps []) (hx : Pol X W)
    (ha : AD X W (a :: es) tr dr)
    (hdb : (x == ("__debug__" : Str)) = false := by decide) (he : starEach (a :: es) X.env = (false, eval a X.env) :: starEach es X.env := by rfl) (hpl : (backTo pos (starEach es X.env)).any (·.1) = false := by rfl) :
    DD X W (.Call (.Name x p) (a :: es) [] pos) (tCallS (spG X.K g) (WE W) tr) (dCall g dr) :=
  ⟨pe_callS Fk hr hg hm hk hb hx ha.pa hdb he hpl, fun Z F μ c σ H Q R p => ha.ev Z F μ c σ H _ R (p.bind.imp fun ds c1 F1 μ1 H1 l1 R1 p1 vs rs => sp_call R1 rs p1)⟩
end
end My

set_option Elab.async false
set_option linter.all false
set_option maxRecDepth 100000
set_option maxHeartbeats 4000000
/-! F5: statements, loops, comprehensions, a def's promise. -/
namespace My
open PySem L2

/-- nothing is raised here -/
def M.ne {α : Type} (m : M α) : M α := fun c => match m c with
  | .ex _ _ => .no
  | r => r
inductive Fl where
  | nx
  | rt (d : D)
  | bk
  | ct
def PostS (K : PySem.W.Frag) (Z F : Hp) (μ : List Addr) (W : WX) (r : R Fl) (D : Ends) : Prop := match r with
  | .ok .nx c => ∀ σ' F' μ' H', Le F μ F' μ' → Rel K Z F' μ' c σ' H' → D.nx σ' H'
  | .ok (.rt d) c => ∀ v σ' F' μ' H', Le F μ F' μ' → Rel K Z F' μ' c σ' H' → Rep K F' μ' v d → D.rt v H'
  | .ok .bk c => ∀ σ' F' μ' H', Le F μ F' μ' → Rel K Z F' μ' c σ' H' → D.bk σ' H'
  | .ok .ct c => ∀ σ' F' μ' H', Le F μ F' μ' → Rel K Z F' μ' c σ' H' → D.ct σ' H'
  | .ex e c => ∀ cls od σ' F' μ' H', Le F μ F' μ' → Rel K Z F' μ' c σ' H' → RepX K F' μ' cls od e → W cls od σ' H'
  | .no => False
theorem PostS.le {K : PySem.W.Frag} {Z F F' : Hp} {μ μ' : List Addr} {W : WX} {r : R Fl} {D : Ends} (le : Le F μ F' μ') (h : PostS K Z F μ W r D) : PostS K Z F' μ' W r D := by
  cases r with
  | ok a c =>
    cases a with
    | nx => exact fun σ F2 μ2 H2 l r => h σ F2 μ2 H2 (le.trans l) r
    | rt d => exact fun v σ F2 μ2 H2 l r x => h v σ F2 μ2 H2 (le.trans l) r x
    | bk => exact fun σ F2 μ2 H2 l r => h σ F2 μ2 H2 (le.trans l) r
    | ct => exact fun σ F2 μ2 H2 l r => h σ F2 μ2 H2 (le.trans l) r
  | ex e c => exact fun cls od σ F2 μ2 H2 l r x => h cls od σ F2 μ2 H2 (le.trans l) r x
  | no => exact h
def StS (K : PySem.W.Frag) (W : WX) (ts : TS) (ds : M Fl) : Prop := ∀ (Z F : Hp) (μ : List Addr) (c : Stt) (σ : St) (H : Hp) (D : Ends), Rel K Z F μ c σ H → PostS K Z F μ W (ds c) D → ts D σ H
structure SD (X : Cx) (W : WX) (st : Stmt) (t : TS) (d : M Fl) : Prop where
  ps : PS X st t
  ev : StS X.K W t d
structure BD (X : Cx) (W : WX) (st : List Stmt) (t : TS) (d : M Fl) : Prop where
  ps : PSs X st t
  ev : StS X.K W t d
/-- behind an expression of a statement -/
theorem PostS.bind {K : PySem.W.Frag} {Z F : Hp} {μ : List Addr} {W : WX} {α : Type} {m : M α} {f : α → M Fl} {c : Stt} {D : Ends} {σ : St} (h : PostS K Z F μ W (M.bind m f c) D) : Post K Z F μ σ W (m c) (fun a c' F' μ' H' => PostS K Z F' μ' W (f a c') D) := by
  unfold M.bind at h
  cases e : m c with
  | ok a c' => rw [e] at h; exact fun F2 μ2 H2 l r => PostS.le l h
  | ex x c' => rw [e] at h; exact fun cls od F' μ' H' l r x => h cls od σ F' μ' H' l r x
  | no => rw [e] at h; exact h

/-! ### targets -/
theorem wipe_set {σ : St} {j : Nat} {y : Option V} : ∀ {us : List Nat}, j ∈ us → wipe (σ.set j y) us = wipe σ us
  | [], h => by simp at h
  | u :: us, h => by
    unfold wipe
    by_cases hj : j ∈ us
    · rw [wipe_set hj]
    · have e : j = u := by
        rcases List.mem_cons.mp h with e | e
        · exact e
        · exact absurd e hj
      subst e
      have key : ∀ (us : List Nat) (σ : St), (wipe (σ.set j y) us).set j none = (wipe σ us).set j none := by
        intro us
        induction us with
        | nil => intro σ; unfold wipe; rw [List.set_set]
        | cons v vs ih =>
          intro σ
          unfold wipe
          by_cases hv : v = j
          · subst hv
            rw [ih]
          · rw [List.set_comm _ _ hv, List.set_comm _ _ hv, ih]
      exact key us σ
def EvG (K : PySem.W.Frag) (vs : List Nat) (g : TG) (dg : D → M Unit) : Prop := ∀ (Z F : Hp) (μ : List Addr) (c : Stt) (σ : St) (H : Hp) (Q : St → Hp → Prop) (v : V) (x : D), Rel K Z F μ c σ H → Rep K F μ v x →
  (∃ c', dg x c = .ok () c' ∧ ∀ σ', Rel K Z F μ c' σ' H → (∀ us, (∀ j ∈ vs, j ∈ us) → wipe σ' us = wipe σ us) → Q σ' H) → g v σ H Q
def EvGs (K : PySem.W.Frag) (vs : List Nat) (g : TGs) (dg : List D → M Unit) : Prop := ∀ (Z F : Hp) (μ : List Addr) (c : Stt) (σ : St) (H : Hp) (Q : St → Hp → Prop) (us : List V) (xs : List D), Rel K Z F μ c σ H → Reps K F μ us xs →
  (∃ c', dg xs c = .ok () c' ∧ ∀ σ', Rel K Z F μ c' σ' H → (∀ us, (∀ j ∈ vs, j ∈ us) → wipe σ' us = wipe σ us) → Q σ' H) → g us σ H Q
structure GD (X : Cx) (tg : Expr) (vs : List Nat) (g : TG) (d : D → M Unit) : Prop where
  pg : PG X tg g
  ev : EvG X.K vs g d
structure GDs (X : Cx) (tg : List Expr) (vs : List Nat) (g : TGs) (d : List D → M Unit) : Prop where
  pg : PGs X tg g
  ev : EvGs X.K vs g d
def dName (i : Nat) (x : D) : M Unit := fun c => .ok () ⟨c.r.set i (.d x), c.S⟩
section
variable {X : Cx} {W : WX} {pos : Pos} {e : Expr} {t : TE}
theorem gd_name {i : Nat} {x : Str} (hN : X.N.Nodup) (hi : X.N[i]? = some x) (hx : Loc X.env.scope x) (hf : X.fn x = true ∨ X.env.scope.names.lookup x = some .local := by first | exact .inl rfl | exact .inr rfl | assumption) : GD X (.Name x pos) [i] (gName i) (dName i) :=
  ⟨pg_name hN hi hx hf, fun Z F μ c σ H Q v x R r ⟨c', e, k⟩ => by
    cases e
    exact k _ (R.setD r) fun us hu => wipe_set (hu i (List.mem_singleton.mpr rfl))⟩
def dUnit (xs : List D) : M Unit := fun c => match xs with
  | [] => .ok () c
  | _ => .no
def dConsG (dg : D → M Unit) (dr : List D → M Unit) (xs : List D) : M Unit := match xs with
  | x :: r => M.bind (dg x) fun _ => dr r
  | [] => M.no
theorem gds_nil : GDs X [] [] gNil dUnit := ⟨pgs_nil, fun Z F μ c σ H Q us xs R r ⟨c', e, k⟩ => by
  cases r with
  | nil => cases e; exact ⟨rfl, k σ R fun _ _ => rfl⟩
  | cons _ _ => cases e⟩
theorem gds_cons {tg : Expr} {es : List Expr} {v1 v2 : List Nat} {g1 : TG} {g2 : TGs} {d1 : D → M Unit} {d2 : List D → M Unit} (h1 : GD X tg v1 g1 d1) (h2 : GDs X es v2 g2 d2)
    (hs : (assignEach (tg :: es) X.env).map (·.2) = assign tg X.env :: (assignEach es X.env).map (·.2) := by rfl) : GDs X (tg :: es) (v1 ++ v2) (gCons g1 g2) (dConsG d1 d2) :=
  ⟨pgs_cons h1.pg h2.pg hs, fun Z F μ c σ H Q us xs R r ⟨c', e, k⟩ => by
    cases r with
    | nil => cases e
    | cons r1 rr =>
      refine ⟨_, _, rfl, ?_⟩
      unfold dConsG M.bind at e
      dsimp only at e
      cases q : d1 _ c with
      | no => rw [q] at e; cases e
      | ex _ _ => rw [q] at e; cases e
      | ok a c1 =>
        rw [q] at e
        exact h1.ev Z F μ c σ H _ _ _ R r1 ⟨c1, q, fun σ1 R1 w1 => h2.ev Z F μ c1 σ1 H Q _ _ R1 rr ⟨c', e, fun σ2 R2 w2 => k σ2 R2 fun us hu => (w2 us fun j hj => hu j (List.mem_append_right _ hj)).trans (w1 us fun j hj => hu j (List.mem_append_left _ hj))⟩⟩⟩
def dTupG (n : Nat) (dr : List D → M Unit) (x : D) : M Unit := fun c => match x with
  | .tup ds => if ds.length = n then dr ds c else .no
  | _ => .no
theorem gd_tup {K : PySem.W.Frag} {es : List Expr} {k n : Nat} {vs : List Nat} {g : TGs} {d : List D → M Unit} (hc : X.calm = true) (h : GDs X es vs g d) (hn : (assignEach es X.env).length = n := by rfl) (hst : (assignEach es X.env).findIdx? (·.1) = none := by rfl) (hK : X.K = K := by rfl) :
    GD X (.Tuple es k pos) vs (gTup K n g) (dTupG n d) := by
  subst hK
  exact ⟨pg_tup hc h.pg hn hst, fun Z F μ c σ H Q v x R r ⟨c', e, k⟩ => by
    unfold dTupG at e
    split at e
    · next ds =>
      split at e
      · next hl =>
        cases r with
        | tup hs rs => exact ⟨_, _, rfl, Same.seqT R.ex hs, by rw [rs.length]; exact hl, h.ev Z F μ c σ H Q _ _ R rs ⟨c', e, k⟩⟩
      · cases e
    · cases e⟩

/-! ### small statements -/
def dNx : M Fl := M.pure .nx
theorem bd_nil : BD X W [] tNext dNx := ⟨pss_nil, fun Z F μ c σ H D R p => p σ F μ H (Le.refl _ _) R⟩
def dSeq (a b : M Fl) : M Fl := M.bind a fun f => match f with
  | .nx => b
  | f => M.pure f
theorem bd_cons {st : Stmt} {rest : List Stmt} {t u : TS} {a b : M Fl} (h1 : SD X W st t a) (h2 : BD X W rest u b) : BD X W (st :: rest) (tSeq t u) (dSeq a b) :=
  ⟨pss_cons h1.ps h2.ps, fun Z F μ c σ H D R p => h1.ev Z F μ c σ H _ R (by
    unfold dSeq M.bind at p
    cases e : a c with
    | ok f c1 =>
      rw [e] at p
      cases f with
      | nx => exact fun σ' F' μ' H' l R' => h2.ev Z F' μ' c1 σ' H' D R' (p.le l)
      | rt d => exact p
      | bk => exact p
      | ct => exact p
    | ex x c1 => rw [e] at p; exact p
    | no => rw [e] at p; exact p)⟩
theorem bd_one {st : Stmt} {t : TS} {a : M Fl} (h : SD X W st t a) : BD X W [st] t a := ⟨pss_one h.ps, h.ev⟩
theorem sd_pass : SD X W (.Pass pos) tNext dNx := ⟨ps_pass, fun Z F μ c σ H D R p => p σ F μ H (Le.refl _ _) R⟩
theorem sd_break : SD X W (.Break pos) tBreak (M.pure .bk) := ⟨ps_break, fun Z F μ c σ H D R p => p σ F μ H (Le.refl _ _) R⟩
theorem sd_continue : SD X W (.Continue pos) tCont (M.pure .ct) := ⟨ps_continue, fun Z F μ c σ H D R p => p σ F μ H (Le.refl _ _) R⟩
theorem sd_doc {x : Str} {j : Nat} {pos' : Pos} : SD X W (.Expr (.Constant (.str x) j pos) pos') tNext dNx := ⟨ps_doc, fun Z F μ c σ H D R p => p σ F μ H (Le.refl _ _) R⟩
def dDrop {α : Type} (m : M α) : M Fl := M.bind m fun _ => M.pure .nx
theorem sd_expr {d : M O} (h : ED X W e t d) (hs : swapsWith e none pos.line X.env = pure false := by rfl) : SD X W (.Expr e pos) (tDrop t) (dDrop d) :=
  ⟨ps_expr h.pe hs, fun Z F μ c σ H D R p => h.ev Z F μ c σ H _ R (p.bind.imp fun o c1 F1 μ1 H1 l1 R1 p1 v r => p1 σ F1 μ1 H1 (Le.refl _ _) R1)⟩
def dRet (m : M D) : M Fl := M.bind m fun d => M.pure (.rt d)
theorem sd_ret {d : M D} (h : DD X W e t d) : SD X W (.Return (some e) pos) (tRet t) (dRet d) :=
  ⟨ps_ret h.pe, fun Z F μ c σ H D R p => h.ev Z F μ c σ H _ R (p.bind.imp fun x c1 F1 μ1 H1 l1 R1 p1 v r => p1 v σ F1 μ1 H1 (Le.refl _ _) R1 r)⟩
theorem sd_retN : SD X W (.Return none pos) tRetN (M.pure (.rt (.v .non))) := ⟨ps_retN, fun Z F μ c σ H D R p => p _ σ F μ H (Le.refl _ _) R (.v _)⟩
def dIfS (b : M Bool) (x y : M Fl) : M Fl := M.bind b fun k => if k = true then x else y
theorem sd_if {tc : TT} {t u : TS} {db : M Bool} {x y : M Fl} {as bs : List Stmt} (hc : TD X W e tc db) (ha : BD X W as t x) (hb : BD X W bs u y) : SD X W (.If e as bs pos) (tIfS tc t u) (dIfS db x y) :=
  ⟨ps_if hc.pt ha.ps hb.ps, fun Z F μ c σ H D R p => hc.ev Z F μ c σ H _ R (p.bind.imp fun k c1 F1 μ1 H1 l1 R1 p1 => by
    cases k with
    | true => exact ha.ev Z F1 μ1 c1 σ H1 D R1 p1
    | false => exact hb.ev Z F1 μ1 c1 σ H1 D R1 p1)⟩
theorem sd_never {st : Stmt} : SD X W st tNever M.no := ⟨ps_never, fun Z F μ c σ H D R p => p⟩
/-- name = value -/
def dSet (i : Nat) (m : M D) : M Fl := M.bind m fun x => M.bind (dName i x) fun _ => M.pure .nx
theorem sd_set {i : Nat} {x : Str} {pos' : Pos} {d : M D} (hN : X.N.Nodup) (hi : X.N[i]? = some x) (hx : Loc X.env.scope x) (h : DD X W e t d) (hs : swapsWith e (some (.Name x pos')) pos.line X.env = pure false := by rfl) (hf : X.fn x = true ∨ X.env.scope.names.lookup x = some .local := by first | exact .inl rfl | exact .inr rfl | assumption) :
    SD X W (.Assign [.Name x pos'] e pos) (tAsg t (gName i)) (dSet i d) :=
  ⟨ps_set hN hi hx h.pe hs hf, fun Z F μ c σ H D R p => h.ev Z F μ c σ H _ R (p.bind.imp fun y c1 F1 μ1 H1 l1 R1 p1 v r => p1 _ F1 μ1 H1 (Le.refl _ _) (R1.setD r))⟩
/-- name = a new list, which is the name's own -/
def dSetN (i : Nat) (m : M (List D)) : M Fl := M.bind m fun ds c => .ok .nx ⟨c.r.set i (.own (.lst ds)), c.S⟩
theorem ev_setN {K : PySem.W.Frag} {i : Nat} {d : M (List D)} (h : EvN K W t d) : StS K W (tAsg t (gName i)) (dSetN i d) := fun Z F μ c σ H D R p =>
  h Z F μ c σ H _ R (p.bind.imp fun ds c1 F1 μ1 H1 l1 R1 p1 q vs hq n r => p1 _ F1 μ1 H1 (Le.refl _ _) (R1.setOwn hq n.f n.z n.no n.nm (.lst r) trivial))
theorem sd_setN {i : Nat} {x : Str} {pos' : Pos} {d : M (List D)} (hN : X.N.Nodup) (hi : X.N[i]? = some x) (hx : Loc X.env.scope x) (h : EN X W e t d) (hs : swapsWith e (some (.Name x pos')) pos.line X.env = pure false := by rfl) (hf : X.fn x = true ∨ X.env.scope.names.lookup x = some .local := by first | exact .inl rfl | exact .inr rfl | assumption) :
    SD X W (.Assign [.Name x pos'] e pos) (tAsg t (gName i)) (dSetN i d) := ⟨ps_set hN hi hx h.pe hs hf, ev_setN h.ev⟩
/-- target = value -/
theorem sd_asg {tg : Expr} {vs : List Nat} {g : TG} {dg : D → M Unit} {d : M D} (h : DD X W e t d) (hg : GD X tg vs g dg) (hs : swapsWithSole [tg] e pos.line X.env = pure false := by rfl) (hw : swappedStores [tg] e X.env = pure none := by rfl)
    (h1 : (assignEach [tg] X.env).map (·.2) = [assign tg X.env] := by rfl) : SD X W (.Assign [tg] e pos) (tAsg t g) (M.bind d fun x => M.bind (M.ne (dg x)) fun _ => M.pure .nx) :=
  ⟨ps_asg h.pe hg.pg hs hw h1, fun Z F μ c σ H D R p => h.ev Z F μ c σ H _ R (p.bind.imp fun y c1 F1 μ1 H1 l1 R1 p1 v r => by
    unfold M.bind M.ne at p1
    cases q : dg y c1 with
    | no => rw [q] at p1; exact p1.elim
    | ex x c2 => rw [q] at p1; exact p1.elim
    | ok a c2 => rw [q] at p1; exact hg.ev Z F1 μ1 c1 σ H1 _ v y R1 r ⟨c2, q, fun σ' R' _ => p1 σ' F1 μ1 H1 (Le.refl _ _) R'⟩)⟩

/-! ### op= -/
def dAug (i : Nat) (g : O → O → M D) (de : M O) : M Fl := fun c => match c.r[i]? with
  | some (.d x) => M.bind de (fun o => M.bind (g (.d x) o) fun y => M.bind (dName i y) fun _ => M.pure .nx) c
  | _ => .no
theorem sd_aug {i : Nat} {x : Str} {op : Operator} {ti : TIp} {g : O → O → M D} {pos' : Pos} {de : M O} (hN : X.N.Nodup) (hi : X.N[i]? = some x) (hx : Loc X.env.scope x) (ho : PIp X op ti) (hr : R2S X.K W ti g) (h : ED X W e t de) (hf : X.fn x = true ∨ X.env.scope.names.lookup x = some .local := by first | exact .inl rfl | exact .inr rfl | assumption) :
    SD X W (.AugAssign (.Name x pos') op e pos) (tAug i t ti) (dAug i g de) :=
  ⟨ps_aug hN hi hx h.pe ho hf, fun Z F μ c σ H D R p => by
    unfold dAug at p
    split at p
    · next d hd =>
      obtain ⟨v, e1, e2⟩ := R.slot i d hd
      exact ⟨v, e1, h.ev Z F μ c σ H _ R (p.bind.imp fun o c1 F1 μ1 H1 l1 R1 p1 v1 r1 => hr Z F1 μ1 c1 σ H1 _ v v1 _ o R1 (.d (e2.mono l1)) r1 (p1.bind.imp fun y c2 F2 μ2 H2 l2 R2 p2 v2 r2 => p2 _ F2 μ2 H2 (Le.refl _ _) (R2.setD r2)))⟩
    · exact p.elim⟩
theorem ip_addS : PIp X .Add (fun x y H Q => ∃ i j, x = .str i ∧ y = .str j ∧ i.length + j.length ≤ sizeLine ∧ Q (.str (i ++ j)) H) := fun pins s σ H x y v u Q I rx ry h => iop_add_str pins s σ H x y v u Q I rx ry h
theorem r2_ipadd {K : PySem.W.Frag} : R2S K W (ipI fun i j => i + j) (gI fun i j => some (.int (i + j))) := r2_int fun i j v H Q e q => ⟨i, j, rfl, rfl, by cases e; exact q⟩
theorem r2_ipsub {K : PySem.W.Frag} : R2S K W (ipI fun i j => i - j) (gI fun i j => some (.int (i - j))) := r2_int fun i j v H Q e q => ⟨i, j, rfl, rfl, by cases e; exact q⟩
/-- a, b = x, y -/
def dPar (i j : Nat) (dr : M (List D)) : M Fl := M.bind dr fun ds c => match ds with
  | [x, y] => .ok .nx ⟨(c.r.set i (.d x)).set j (.d y), c.S⟩
  | _ => .no
theorem sd_par {i j : Nat} {x y : Str} {a b : Expr} {ta : TA} {px py pt : Pos} {kt k2 : Nat} {pt2 : Pos} {dr : M (List D)} (hc : X.calm = true) (hN : X.N.Nodup) (hi : X.N[i]? = some x) (hj : X.N[j]? = some y) (hij : i ≠ j)
    (hx : X.env.scope.names.lookup x = some .local) (hy : X.env.scope.names.lookup y = some .local) (ha : AD X W [a, b] ta dr)
    (hw : swappedStores [.Tuple [.Name x px, .Name y py] kt pt] (.Tuple [a, b] k2 pt2) X.env = pure (some [x, y]))
    (hs : swapsWithSole [.Tuple [.Name x px, .Name y py] kt pt] (.Tuple [a, b] k2 pt2) pos.line X.env = pure false := by rfl) :
    SD X W (.Assign [.Tuple [.Name x px, .Name y py] kt pt] (.Tuple [a, b] k2 pt2) pos) (tPar i j ta) (dPar i j dr) :=
  ⟨ps_par hc hN hi hj hij hx hy ha.pa hw hs, fun Z F μ c σ H D R p => ha.ev Z F μ c σ H _ R (p.bind.imp fun ds c1 F1 μ1 H1 l1 R1 p1 vs r => by
    split at p1
    · cases r with
      | cons r1 r =>
        cases r with
        | cons r2 r =>
          cases r
          exact ⟨_, _, rfl, p1 _ F1 μ1 H1 (Le.refl _ _) ((R1.setD r1).setD r2)⟩
    · exact p1.elim)⟩

/-! ### while -/
def itW (dc : M Bool) (db : M Fl) : Nat → M Fl
  | 0 => M.no
  | n + 1 => M.bind dc fun k => if k = true then M.bind db fun f => match f with
      | .nx => itW dc db n
      | .ct => itW dc db n
      | .bk => M.pure .nx
      | .rt d => M.pure (.rt d)
    else M.pure .nx
theorem itW_mono (dc : M Bool) (db : M Fl) : ∀ (n : Nat) (c : Stt), itW dc db n c ≠ .no → itW dc db (n + 1) c = itW dc db n c
  | 0, c, h => absurd rfl h
  | n + 1, c, h => by
    unfold itW M.bind at h ⊢
    cases q : dc c with
    | no => rfl
    | ex _ _ => rfl
    | ok k c1 =>
      rw [q] at h
      dsimp only at h ⊢
      cases k with
      | false => rfl
      | true =>
        rw [if_pos rfl] at h ⊢
        rw [if_pos rfl]
        cases q2 : db c1 with
        | no => rfl
        | ex _ _ => rfl
        | ok f c2 =>
          rw [q2] at h
          cases f with
          | nx => exact itW_mono dc db n c2 h
          | ct => exact itW_mono dc db n c2 h
          | bk => rfl
          | rt d => rfl
theorem itW_le {dc : M Bool} {db : M Fl} {n : Nat} {c : Stt} (h : itW dc db n c ≠ .no) : ∀ k, itW dc db (n + k) c = itW dc db n c
  | 0 => rfl
  | k + 1 => by
    have ih := itW_le h k
    rw [← Nat.add_assoc, itW_mono dc db (n + k) c (by rw [ih]; exact h), ih]
open Classical in
noncomputable def dWhile (dc : M Bool) (db : M Fl) : M Fl := fun c => if h : ∃ n, itW dc db n c ≠ .no then itW dc db h.choose c else .no
theorem dWhile_of {dc : M Bool} {db : M Fl} {n : Nat} {c : Stt} (h : itW dc db n c ≠ .no) : dWhile dc db c = itW dc db n c := by
  have hx : ∃ n, itW dc db n c ≠ .no := ⟨n, h⟩
  unfold dWhile
  rw [dif_pos hx]
  have h2 := hx.choose_spec
  rw [← itW_le h2 n, ← itW_le h hx.choose, Nat.add_comm]
theorem dWhile_eq (dc : M Bool) (db : M Fl) : dWhile dc db = M.bind dc fun k => if k = true then M.bind db fun f => match f with
      | .nx => dWhile dc db
      | .ct => dWhile dc db
      | .bk => M.pure .nx
      | .rt d => M.pure (.rt d)
    else M.pure .nx := by
  funext c
  have up : ∀ (n : Nat) (c : Stt), itW dc db (n + 1) c = (M.bind dc fun k => if k = true then M.bind db fun f => match f with
      | .nx => itW dc db n
      | .ct => itW dc db n
      | .bk => M.pure .nx
      | .rt d => M.pure (.rt d)
    else M.pure .nx) c := fun n c => rfl
  by_cases hx : ∃ n, itW dc db n c ≠ .no
  · obtain ⟨n, h⟩ := hx
    rw [dWhile_of h]
    cases n with
    | zero => exact absurd rfl h
    | succ n =>
      rw [up] at h ⊢
      unfold M.bind at h ⊢
      cases q : dc c with
      | no => rfl
      | ex _ _ => rfl
      | ok k c1 =>
        rw [q] at h
        dsimp only at h ⊢
        cases k with
        | false => rfl
        | true =>
          rw [if_pos rfl] at h ⊢
          rw [if_pos rfl]
          cases q2 : db c1 with
          | no => rfl
          | ex _ _ => rfl
          | ok f c2 =>
            rw [q2] at h
            cases f with
            | nx => exact (dWhile_of h).symm
            | ct => exact (dWhile_of h).symm
            | bk => rfl
            | rt d => rfl
  · have hn : ∀ n, itW dc db n c = .no := fun n => Classical.byContradiction fun h => hx ⟨n, h⟩
    have e1 : dWhile dc db c = .no := by unfold dWhile; rw [dif_neg hx]
    rw [e1]
    have h1 := hn 1
    rw [up] at h1
    unfold M.bind at h1 ⊢
    cases q : dc c with
    | no => rfl
    | ex _ _ => rw [q] at h1; cases h1
    | ok k c1 =>
      rw [q] at h1
      dsimp only at h1 ⊢
      cases k with
      | false => cases h1
      | true =>
        rw [if_pos rfl] at h1 ⊢
        cases q2 : db c1 with
        | no => rfl
        | ex _ _ => rw [q2] at h1; cases h1
        | ok f c2 =>
          have go : ∀ n, itW dc db n c2 = .no ∨ (f ≠ .nx ∧ f ≠ .ct) := fun n => by
            by_cases hf : f ≠ .nx ∧ f ≠ .ct
            · exact .inr hf
            · have hn1 := hn (n + 1)
              rw [up] at hn1
              unfold M.bind at hn1
              rw [q] at hn1
              dsimp only at hn1
              rw [if_pos rfl, q2] at hn1
              cases f with
              | nx => exact .inl hn1
              | ct => exact .inl hn1
              | bk => exact .inr ⟨(fun z => by cases z), (fun z => by cases z)⟩
              | rt d => exact .inr ⟨(fun z => by cases z), (fun z => by cases z)⟩
          have none2 : (f = .nx ∨ f = .ct) → dWhile dc db c2 = .no := fun hf => by
            unfold dWhile
            rw [dif_neg]
            rintro ⟨n, h⟩
            rcases go n with g | ⟨g1, g2⟩
            · exact h g
            · rcases hf with rfl | rfl
              · exact g1 rfl
              · exact g2 rfl
          cases f with
          | nx => exact (none2 (.inl rfl)).symm
          | ct => exact (none2 (.inr rfl)).symm
          | bk => rw [q2] at h1; cases h1
          | rt d => rw [q2] at h1; cases h1
theorem sd_while {body : List Stmt} {tc : TT} {tb : TS} {dc : M Bool} {db : M Fl} (hp : PassesOwn (model X.prog X.w) X.A X.env X.xe) (hc : TD X W e tc dc) (hb : BD X W body tb db) : SD X W (.While e body [] pos) (tWhile tc tb) (dWhile dc db) :=
  ⟨ps_while hp hc.pt hb.ps, fun Z F μ c σ H D R p => by
    unfold dWhile at p
    split at p
    · next hx =>
      generalize hx.choose = n at p
      refine ⟨fun m σ' H' => ∃ F' μ' c', Le F μ F' μ' ∧ Rel X.K Z F' μ' c' σ' H' ∧ PostS X.K Z F' μ' W (itW dc db m c') D, ⟨n, F, μ, c, Le.refl _ _, R, p⟩, ?_⟩
      rintro m σ1 H1 ⟨F1, μ1, c1, l1, R1, p1⟩
      cases m with
      | zero => exact p1.elim
      | succ m =>
        refine hc.ev Z F1 μ1 c1 σ1 H1 _ R1 (PostS.bind p1 |>.imp fun k c2 F2 μ2 H2 l2 R2 p2 => ?_)
        cases k with
        | false => exact p2 σ1 F2 μ2 H2 (Le.refl _ _) R2
        | true =>
          refine ⟨fun σ' H' => ∃ F' μ' c', Le F μ F' μ' ∧ Rel X.K Z F' μ' c' σ' H' ∧ PostS X.K Z F' μ' W (itW dc db m c') D, fun σ' H' h => ⟨m, Nat.lt_succ_self m, h⟩, ?_⟩
          refine hb.ev Z F2 μ2 c2 σ1 H2 _ R2 ?_
          rw [if_pos rfl] at p2
          unfold M.bind at p2
          cases q : db c2 with
          | no => rw [q] at p2; exact p2
          | ex x c3 => rw [q] at p2; exact p2
          | ok f c3 =>
            rw [q] at p2
            cases f with
            | nx => exact fun σ' F' μ' H' l R' => ⟨F', μ', c3, (l1.trans l2).trans l, R', p2.le l⟩
            | ct => exact fun σ' F' μ' H' l R' => ⟨F', μ', c3, (l1.trans l2).trans l, R', p2.le l⟩
            | bk => exact p2
            | rt d => exact p2
    · exact p.elim⟩

/-! ### what is walked -/
structure Wk (K : PySem.W.Frag) (F : Hp) (μ : List Addr) (J : It) (ds : List D) : Prop where
  go : ∀ i H, Same F H → i < ds.length → J.go i H
  stop : ∀ i H, Same F H → ds.length ≤ i → J.stop i H
  yld : ∀ i H x H', Same F H → i < ds.length → J.yld i H x H' → ∃ d, ds[i]? = some d ∧ ((H' = H ∧ Rep K F μ x d) ∨ ∃ T vs es, H T = none ∧ H' = upd H T (.tup vs) ∧ x = .ref T ∧ d = .tup es ∧ Reps K F μ vs es)
theorem Wk.mono {K : PySem.W.Frag} {F F' : Hp} {μ μ' : List Addr} {J : It} {ds : List D} (le : Le F μ F' μ') (h : Wk K F μ J ds) : Wk K F' μ' J ds :=
  ⟨fun i H s => h.go i H (le.ex.trans s), fun i H s => h.stop i H (le.ex.trans s), fun i H x H' s hi y => by
    obtain ⟨d, e, q⟩ := h.yld i H x H' (le.ex.trans s) hi y
    refine ⟨d, e, ?_⟩
    rcases q with ⟨e1, r⟩ | ⟨T, vs, es, h1, h2, h3, h4, r⟩
    · exact .inl ⟨e1, r.mono le⟩
    · exact .inr ⟨T, vs, es, h1, h2, h3, h4, r.mono le⟩⟩
def EvI (K : PySem.W.Frag) (W : WX) (wi : TI) (di : M (List D)) : Prop := ∀ (Z F : Hp) (μ : List Addr) (c : Stt) (σ : St) (H : Hp) (P : It → Hp → Prop), Rel K Z F μ c σ H →
  Post K Z F μ σ W (di c) (fun ds _ F' μ' H' => ∀ J, Wk K F' μ' J ds → P J H') → wi σ H P
structure ID (X : Cx) (W : WX) (tg iter : Expr) (wi : TI) (di : M (List D)) : Prop where
  pi : PI X tg iter wi
  ev : EvI X.K W wi di
theorem wk_list {K : PySem.W.Frag} {F : Hp} {μ : List Addr} {a : Addr} {vs : List V} {ds : List D} (h : SqL K F a vs) (r : Reps K F μ vs ds) : Wk K F μ (Itl K a) ds where
  go := fun i H s hi => by
    have hj : i < vs.length := by rw [r.length]; exact hi
    exact ⟨vs, vs[i], s.seq h, List.getElem?_eq_getElem hj⟩
  stop := fun i H s hi => ⟨vs, s.seq h, by rw [r.length]; exact hi⟩
  yld := fun i H x H' s hi ⟨e, y⟩ => by
    obtain ⟨d, e1, r1⟩ := r.getV (y vs (s.seq h))
    exact ⟨d, e1, .inl ⟨e, r1⟩⟩
theorem wk_tup {K : PySem.W.Frag} {F : Hp} {μ : List Addr} {a : Addr} {vs : List V} {ds : List D} (h : SqT K F a vs) (r : Reps K F μ vs ds) : Wk K F μ (Itt K a) ds where
  go := fun i H s hi => by
    have hj : i < vs.length := by rw [r.length]; exact hi
    exact ⟨vs, vs[i], Same.seqT s h, List.getElem?_eq_getElem hj⟩
  stop := fun i H s hi => ⟨vs, Same.seqT s h, by rw [r.length]; exact hi⟩
  yld := fun i H x H' s hi ⟨e, y⟩ => by
    obtain ⟨d, e1, r1⟩ := r.getV (y vs (Same.seqT s h))
    exact ⟨d, e1, .inl ⟨e, r1⟩⟩
def rngD (lo : Int) (n : Nat) : List D := (List.range n).map fun k => .v (.int (lo + (k : Nat)))
theorem wk_range {K : PySem.W.Frag} {F : Hp} {μ : List Addr} {lo : Int} {n : Nat} : Wk K F μ (Itr lo n) (rngD lo n) where
  go := fun i H s hi => by
    have : i < n := by simpa [rngD] using hi
    exact this
  stop := fun i H s hi => by
    have : n ≤ i := by simpa [rngD] using hi
    exact this
  yld := fun i H x H' s hi ⟨e, y⟩ => by
    have hi' : i < n := by simpa [rngD] using hi
    refine ⟨.v (.int (lo + (i : Nat))), ?_, .inl ⟨e, by rw [y]; exact .v _⟩⟩
    unfold rngD
    rw [List.getElem?_map, List.getElem?_range hi']
    rfl
def sgnD (x : Str) : List D := x.cps.toList.map fun k => .v (.str ⟨#[k]⟩)
theorem wk_str {K : PySem.W.Frag} {F : Hp} {μ : List Addr} {x : Str} : Wk K F μ (Its x) (sgnD x) where
  go := fun i H s hi => by
    have : i < x.cps.size := by simpa [sgnD] using hi
    exact this
  stop := fun i H s hi => by
    have : x.cps.size ≤ i := by simpa [sgnD] using hi
    exact this
  yld := fun i H v H' s hi ⟨e, k, y, hv⟩ => by
    refine ⟨.v (.str ⟨#[k]⟩), ?_, .inl ⟨e, by rw [hv]; exact .v _⟩⟩
    unfold sgnD
    rw [List.getElem?_map, Array.getElem?_toList, y]
    rfl
def enuD (ds : List D) : List D := (List.range ds.length).map fun k => .tup [.v (.int (k : Nat)), ds.getD k (.v .non)]
theorem wk_enum {K : PySem.W.Frag} {F : Hp} {μ : List Addr} {a : Addr} {vs : List V} {ds : List D} (h : SqL K F a vs) (r : Reps K F μ vs ds) : Wk K F μ (Ite K a) (enuD ds) where
  go := fun i H s hi => by
    have hi : i < ds.length := by simpa [enuD] using hi
    have hj : i < vs.length := by rw [r.length]; exact hi
    exact ⟨vs, vs[i], s.seq h, List.getElem?_eq_getElem hj⟩
  stop := fun i H s hi => ⟨vs, s.seq h, by rw [r.length]; simpa [enuD] using hi⟩
  yld := fun i H v H' s hi ⟨T, x, e1, e2, e3, y⟩ => by
    have hi : i < ds.length := by simpa [enuD] using hi
    obtain ⟨d, e4, r1⟩ := r.getV (y vs (s.seq h))
    refine ⟨_, ?_, .inr ⟨T, _, _, e2, e3, e1, rfl, .cons (.v (.int (i : Nat))) (.cons r1 .nil)⟩⟩
    unfold enuD
    rw [List.getElem?_map, List.getElem?_range hi]
    simp [List.getD, e4]
theorem wk_zip {K : PySem.W.Frag} {F : Hp} {μ : List Addr} {a b : Addr} {vs ws : List V} {ds es : List D} (h : SqL K F a vs) (h' : SqL K F b ws) (r : Reps K F μ vs ds) (r' : Reps K F μ ws es) : Wk K F μ (Itz K a b) ((ds.zip es).map fun p => .tup [p.1, p.2]) where
  go := fun i H s hi => by
    have hi : i < ds.length ∧ i < es.length := by simpa [Nat.lt_min] using hi
    have h1 : i < vs.length := by rw [r.length]; exact hi.1
    have h2 : i < ws.length := by rw [r'.length]; exact hi.2
    exact ⟨vs, ws, vs[i], ws[i], s.seq h, s.seq h', List.getElem?_eq_getElem h1, List.getElem?_eq_getElem h2⟩
  stop := fun i H s hi => ⟨vs, ws, s.seq h, s.seq h', by
    rw [r.length, r'.length]
    simp at hi
    omega⟩
  yld := fun i H v H' s hi ⟨T, x, y, e1, e2, e3, y1, y2⟩ => by
    obtain ⟨d1, e4, r1⟩ := r.getV (y1 vs (s.seq h))
    obtain ⟨d2, e5, r2⟩ := r'.getV (y2 ws (s.seq h'))
    refine ⟨.tup [d1, d2], ?_, .inr ⟨T, _, _, e2, e3, e1, rfl, .cons r1 (.cons r2 .nil)⟩⟩
    have e6 : (ds.zip es)[i]? = some (d1, d2) := List.getElem?_zip_eq_some.mpr ⟨e4, e5⟩
    rw [List.getElem?_map, e6]
    rfl
/-- a list, a tuple, a text -/
def iAny (K : PySem.W.Frag) (t : TE) : TI := fun σ H P => iList K t σ H P ∨ iTup K t σ H P ∨ iStr t σ H P
theorem pi_any {tg l : Expr} {tl : TE} (hl : PE X l tl) : PI X tg l (iAny X.K tl) := by
  refine ⟨fun pins s σ H P I h => ?_⟩
  rcases h with h | h | h
  · exact (pi_list hl).run pins s σ H P I h
  · exact (pi_tup hl).run pins s σ H P I h
  · exact (pi_str hl).run pins s σ H P I h
def seqX : D → M (List D)
  | .lst ds => M.pure ds
  | .scr ds => M.pure ds
  | .tup ds => M.pure ds
  | .v (.str x) => M.pure (sgnD x)
  | _ => M.no
theorem id_any {K : PySem.W.Frag} {tg l : Expr} {tl : TE} {dd : M D} (h : DD X W l tl dd) (hK : X.K = K := by rfl) : ID X W tg l (iAny K tl) (M.bind dd seqX) := by
  subst hK
  exact ⟨pi_any h.pe, fun Z F μ c σ H P R p => by
    cases e : dd c with
    | no =>
      unfold M.bind at p
      rw [e] at p
      exact p.elim
    | ex x c1 =>
      unfold M.bind at p
      rw [e] at p
      exact .inl (h.ev Z F μ c σ H _ R (by rw [e]; exact p))
    | ok x c1 =>
      have p1 := p.bind
      rw [e] at p1
      cases x with
      | lst ds =>
        refine .inl (h.ev Z F μ c σ H _ R (by
          rw [e]
          refine fun F' μ' H' l R' v r => ?_
          cases r with
          | lst hs rs =>
            have hq : SqL X.K F' _ _ := .of hs
            exact ⟨_, rfl, ⟨_, R'.ex.seq hq⟩, p1 F' μ' H' l R' F' μ' H' (Le.refl _ _) R' _ (wk_list hq rs)⟩))
      | scr ds =>
        refine .inl (h.ev Z F μ c σ H _ R (by
          rw [e]
          refine fun F' μ' H' l R' v r => ?_
          cases r with
          | scr hq rs => exact ⟨_, rfl, ⟨_, R'.ex.seq hq⟩, p1 F' μ' H' l R' F' μ' H' (Le.refl _ _) R' _ (wk_list hq rs)⟩))
      | tup ds =>
        refine .inr (.inl (h.ev Z F μ c σ H _ R (by
          rw [e]
          refine fun F' μ' H' l R' v r => ?_
          cases r with
          | tup hq rs => exact ⟨_, rfl, ⟨_, Same.seqT R'.ex hq⟩, p1 F' μ' H' l R' F' μ' H' (Le.refl _ _) R' _ (wk_tup hq rs)⟩)))
      | v z =>
        cases z with
        | str x =>
          refine .inr (.inr (h.ev Z F μ c σ H _ R (by
            rw [e]
            refine fun F' μ' H' l R' v r => ?_
            cases r
            exact ⟨_, rfl, p1 F' μ' H' l R' F' μ' H' (Le.refl _ _) R' _ wk_str⟩)))
        | _ =>
          unfold M.bind at p
          rw [e] at p
          exact p.elim
      | _ =>
        unfold M.bind at p
        rw [e] at p
        exact p.elim⟩
end
end My

set_option Elab.async false
set_option linter.all false
set_option maxRecDepth 100000
set_option maxHeartbeats 4000000
/-! F6: for, comprehensions, a def's promise. -/
namespace My
open PySem L2
section
variable {X : Cx} {W : WX} {pos : Pos} {e : Expr} {t : TE}

/-! ### range, enumerate, zip -/
def rngX (ds : List D) : M (List D) := match ds with
  | [.v (.int j)] => if j < 2 ^ 62 then M.pure (if -(2 ^ 62) ≤ j then rngD 0 j.toNat else []) else M.no
  | [.v (.int i), .v (.int j)] => if -(2 ^ 62) ≤ i ∧ i < 2 ^ 62 ∧ -(2 ^ 62) ≤ j ∧ j < 2 ^ 62 then M.pure (rngD i (j - i).toNat) else M.no
  | _ => M.no
def rng1X (ds : List D) : M (List D) := match ds with
  | [.v (.int j)] => if -(2 ^ 62) ≤ j ∧ j.toNat < 2 ^ 62 then M.pure (rngD 0 j.toNat) else M.no
  | _ => M.no
def rng2X (ds : List D) : M (List D) := match ds with
  | [.v (.int i), .v (.int j)] => if -(2 ^ 62) ≤ i ∧ i.toNat < 2 ^ 62 ∧ -(2 ^ 62) ≤ j ∧ j.toNat < 2 ^ 62 then M.pure (rngD i (j - i).toNat) else M.no
  | _ => M.no
theorem id_range1 {tg a : Expr} {ta : TA} {p : Pos} {da : M (List D)} (hg : Gl X "range") (hm : X.mg "range" = none) (ha : AD X W [a] ta da) (hs : starEach [a] X.env = [(false, eval a X.env)] := by rfl) :
    ID X W tg (.Call (.Name "range" p) [a] [] pos) (iRng1 ta) (M.bind da rng1X) :=
  ⟨pi_range1 hg hm ha.pa hs, fun Z F μ c σ H P R p => ha.ev Z F μ c σ H _ R (p.bind.imp fun ds c1 F1 μ1 H1 l1 R1 p1 vs rs => by
    unfold rng1X at p1
    split at p1
    · next j =>
      split at p1
      · next hz =>
        cases rs with
        | cons r rs =>
          cases r
          cases rs
          exact ⟨j, rfl, hz.1, by omega, p1 F1 μ1 H1 (Le.refl _ _) R1 _ wk_range⟩
      · exact p1.elim
    · exact p1.elim)⟩
theorem id_range2 {tg a b : Expr} {ta : TA} {p : Pos} {da : M (List D)} (hg : Gl X "range") (hm : X.mg "range" = none) (ha : AD X W [a, b] ta da) (hs : starEach [a, b] X.env = [(false, eval a X.env), (false, eval b X.env)] := by rfl) (hs2 : starEach [b] X.env = [(false, eval b X.env)] := by rfl) :
    ID X W tg (.Call (.Name "range" p) [a, b] [] pos) (iRng2 ta) (M.bind da rng2X) :=
  ⟨pi_range2 hg hm ha.pa hs hs2, fun Z F μ c σ H P R p => ha.ev Z F μ c σ H _ R (p.bind.imp fun ds c1 F1 μ1 H1 l1 R1 p1 vs rs => by
    unfold rng2X at p1
    split at p1
    · next i j =>
      split at p1
      · next hz =>
        cases rs with
        | cons r rs =>
          cases r
          cases rs with
          | cons r rs =>
            cases r
            cases rs
            exact ⟨i, j, rfl, ⟨hz.1, by omega, hz.2.2.1, by omega⟩, p1 F1 μ1 H1 (Le.refl _ _) R1 _ wk_range⟩
      · exact p1.elim
    · exact p1.elim)⟩
def enuX (ds : List D) : M (List D) := match ds with
  | [.lst es] => M.pure (enuD es)
  | [.scr es] => M.pure (enuD es)
  | _ => M.no
theorem id_enum {K : PySem.W.Frag} {a : Expr} {ta : TA} {p tpos : Pos} {elts : List Expr} {kk : Nat} {da : M (List D)} (hg : Gl X "enumerate") (hm : X.mg "enumerate" = none) (ha : AD X W [a] ta da) (hs : starEach [a] X.env = [(false, eval a X.env)] := by rfl) (hK : X.K = K := by rfl) :
    ID X W (.Tuple elts kk tpos) (.Call (.Name "enumerate" p) [a] [] pos) (iEnum K ta) (M.bind da enuX) := by
  subst hK
  exact ⟨pi_enum hg hm ha.pa hs, fun Z F μ c σ H P R p => ha.ev Z F μ c σ H _ R (p.bind.imp fun ds c1 F1 μ1 H1 l1 R1 p1 vs rs => by
    unfold enuX at p1
    split at p1
    · next es =>
      cases rs with
      | cons r rs =>
        cases rs
        cases r with
        | lst hs r =>
          have hq : SqL X.K F1 _ _ := .of hs
          exact ⟨_, _, rfl, R1.ex.seq hq, p1 F1 μ1 H1 (Le.refl _ _) R1 _ (wk_enum hq r)⟩
    · next es =>
      cases rs with
      | cons r rs =>
        cases rs
        cases r with
        | scr hq r => exact ⟨_, _, rfl, R1.ex.seq hq, p1 F1 μ1 H1 (Le.refl _ _) R1 _ (wk_enum hq r)⟩
    · exact p1.elim)⟩
def zipX (ds : List D) : M (List D) := match ds with
  | [.lst xs, .lst ys] => M.pure ((xs.zip ys).map fun p => .tup [p.1, p.2])
  | _ => M.no
theorem id_zip {K : PySem.W.Frag} {a b : Expr} {ta : TA} {p tpos : Pos} {elts : List Expr} {kk : Nat} {da : M (List D)} (hg : Gl X "zip") (hm : X.mg "zip" = none) (ha : AD X W [a, b] ta da)
    (hs : starEach [a, b] X.env = (false, eval a X.env) :: starEach [b] X.env := by rfl) (hpl : (backTo pos (starEach [b] X.env)).any (·.1) = false := by rfl) (hK : X.K = K := by rfl) :
    ID X W (.Tuple elts kk tpos) (.Call (.Name "zip" p) [a, b] [] pos) (iZip K ta) (M.bind da zipX) := by
  subst hK
  exact ⟨pi_zip hg hm ha.pa hs hpl, fun Z F μ c σ H P R p => ha.ev Z F μ c σ H _ R (p.bind.imp fun ds c1 F1 μ1 H1 l1 R1 p1 vs rs => by
    unfold zipX at p1
    split at p1
    · next xs ys =>
      cases rs with
      | cons r1 rs =>
        cases rs with
        | cons r2 rs =>
          cases rs
          cases r1 with
          | lst h1 r1 =>
            cases r2 with
            | lst h2 r2 =>
              have q1 : SqL X.K F1 _ _ := .of h1
              have q2 : SqL X.K F1 _ _ := .of h2
              exact ⟨_, _, _, _, rfl, R1.ex.seq q1, R1.ex.seq q2, p1 F1 μ1 H1 (Le.refl _ _) R1 _ (wk_zip q1 q2 r1 r2)⟩
    · exact p1.elim)⟩

/-! ### for -/
def itF (dg : D → M Unit) (db : M Fl) : List D → M Fl
  | [] => M.pure .nx
  | d :: r => M.bind (M.ne (dg d)) fun _ => M.bind db fun f => match f with
      | .nx => itF dg db r
      | .ct => itF dg db r
      | .bk => M.pure .nx
      | .rt x => M.pure (.rt x)
def dFor (di : M (List D)) (dg : D → M Unit) (db : M Fl) : M Fl := M.bind di fun ds => itF dg db ds
theorem sd_for {tg iter : Expr} {body : List Stmt} {wi : TI} {vs : List Nat} {g : TG} {tb : TS} {di : M (List D)} {dg : D → M Unit} {db : M Fl} (hp : PassesOwn (model X.prog X.w) X.A X.env X.xe) (hc : X.calm = true) (hi : ID X W tg iter wi di) (hg : GD X tg vs g dg) (hb : BD X W body tb db)
    (hs : ∀ x, foldedSetIterable iter X.env x = pure x := by intro _; rfl) : SD X W (.For tg iter body [] pos) (tFor wi g tb) (dFor di dg db) := by
  refine ⟨ps_for hp hc hi.pi hg.pg hb.ps hs, fun Z F μ c σ H D R p => hi.ev Z F μ c σ H _ R (PostS.bind p |>.imp fun ds c1 F1 μ1 H1 l1 R1 p1 J wk => ?_)⟩
  refine ⟨fun i m σ' H' => m = ds.length - i ∧ i ≤ ds.length ∧ ∃ F' μ' c', Le F1 μ1 F' μ' ∧ Rel X.K Z F' μ' c' σ' H' ∧ PostS X.K Z F' μ' W (itF dg db (ds.drop i) c') D, ⟨ds.length, by simp, Nat.zero_le _, F1, μ1, c1, Le.refl _ _, R1, p1⟩, ?_⟩
  rintro i m σ2 H2 ⟨rfl, hi2, F2, μ2, c2, l2, R2, p2⟩
  have wk2 := wk.mono l2
  by_cases hlt : i < ds.length
  · refine .inr ⟨wk2.go i H2 R2.ex hlt, fun σ' H' => ∃ F' μ' c', Le F1 μ1 F' μ' ∧ Rel X.K Z F' μ' c' σ' H' ∧ PostS X.K Z F' μ' W (itF dg db (ds.drop (i + 1)) c') D, fun σ' H' h => ⟨_, by omega, rfl, hlt, h⟩, fun x H' y => ?_⟩
    obtain ⟨d, e1, q⟩ := wk2.yld i H2 x H' R2.ex hlt y
    have ed : ds.drop i = d :: ds.drop (i + 1) := by
      rw [List.drop_eq_getElem_cons hlt]
      rw [List.getElem?_eq_getElem hlt] at e1
      rw [Option.some.inj e1]
    rw [ed] at p2
    -- the item, as it stands behind the iterator's turn
    obtain ⟨F3, l3, R3, r3⟩ : ∃ F3, Le F2 μ2 F3 μ2 ∧ Rel X.K Z F3 μ2 c2 σ2 H' ∧ Rep X.K F3 μ2 x d := by
      rcases q with ⟨rfl, r⟩ | ⟨T, us, es, h1, rfl, rfl, rfl, r⟩
      · exact ⟨F2, Le.refl _ _, R2, r⟩
      · obtain ⟨R3, l3⟩ := R2.new (o := .tup us) h1
        exact ⟨_, l3, R3, .tup (.of upd_same) (r.mono l3)⟩
    unfold itF M.bind M.ne at p2
    cases q2 : dg d c2 with
    | no => rw [q2] at p2; exact p2.elim
    | ex _ _ => rw [q2] at p2; exact p2.elim
    | ok u c3 =>
      rw [q2] at p2
      refine hg.ev Z F3 μ2 c2 σ2 H' _ x d R3 r3 ⟨c3, q2, fun σ3 R4 _ => hb.ev Z F3 μ2 c3 σ3 H' _ R4 ?_⟩
      have p3 := p2.le l3
      dsimp only at p3
      cases q3 : db c3 with
      | no => rw [q3] at p3; exact p3
      | ex _ _ => rw [q3] at p3; exact p3
      | ok f c4 =>
        rw [q3] at p3
        cases f with
        | nx => exact fun σ' F' μ' H4 l R' => ⟨F', μ', c4, (l2.trans l3).trans l, R', p3.le l⟩
        | ct => exact fun σ' F' μ' H4 l R' => ⟨F', μ', c4, (l2.trans l3).trans l, R', p3.le l⟩
        | bk => exact p3
        | rt d => exact p3
  · have e1 : ds.drop i = [] := List.drop_eq_nil_of_le (by omega)
    rw [e1] at p2
    exact .inl ⟨wk2.stop i H2 R2.ex (by omega), p2 σ2 F2 μ2 H2 (Le.refl _ _) R2⟩

/-! ### comprehensions -/
def wipeD (r : List Slot) : List Nat → List Slot
  | [] => r
  | v :: vs => (wipeD r vs).set v .no
theorem rel_no {K : PySem.W.Frag} {Z F : Hp} {μ : List Addr} {c : Stt} {σ : St} {H : Hp} (h : Rel K Z F μ c σ H) (i : Nat) (y : Option V) : Rel K Z F μ ⟨c.r.set i .no, c.S⟩ (σ.set i y) H := by
  have key : ∀ (j : Nat) (z : Slot), z ≠ .no → (c.r.set i .no)[j]? = some z → j ≠ i ∧ c.r[j]? = some z := fun j z hz q => by
    by_cases hj : j = i
    · subst hj
      rw [List.getElem?_set] at q
      simp at q
      exact absurd q.2.symm hz
    · rw [List.getElem?_set_ne (Ne.symm hj)] at q; exact ⟨hj, q⟩
  refine { ex := h.ex, exz := h.exz, fz := h.fz, len := by simpa using h.len, slot := fun j y q => ?_, own := fun j m q => ?_, dis := fun j k a m m' q1 q2 e1 e2 => ?_, lm := h.lm, sto := h.sto, dst := fun j n a m q e1 e2 => ?_, ndm := h.ndm }
  · obtain ⟨hj, q⟩ := key j _ (fun z => by cases z) q
    rw [List.getElem?_set_ne (Ne.symm hj)]
    exact h.slot j y q
  · obtain ⟨hj, q⟩ := key j _ (fun z => by cases z) q
    rw [List.getElem?_set_ne (Ne.symm hj)]
    exact h.own j m q
  · obtain ⟨hj, q1⟩ := key j _ (fun z => by cases z) q1
    obtain ⟨hk, q2⟩ := key k _ (fun z => by cases z) q2
    rw [List.getElem?_set_ne (Ne.symm hj)] at e1
    rw [List.getElem?_set_ne (Ne.symm hk)] at e2
    exact h.dis j k a m m' q1 q2 e1 e2
  · obtain ⟨hj, q⟩ := key j _ (fun z => by cases z) q
    rw [List.getElem?_set_ne (Ne.symm hj)] at e1
    exact h.dst j n a m q e1 e2
theorem rel_wipe {K : PySem.W.Frag} {Z F : Hp} {μ : List Addr} {c : Stt} {σ : St} {H : Hp} (h : Rel K Z F μ c σ H) : ∀ vs : List Nat, Rel K Z F μ ⟨wipeD c.r vs, c.S⟩ (wipe σ vs) H
  | [] => h
  | v :: vs => rel_no (rel_wipe h vs) v none
/-- the slots vs as they were -/
def backD (r0 r : List Slot) : List Nat → List Slot
  | [] => r
  | v :: vs => (backD r0 r vs).set v (match r0[v]? with
    | some (.d x) => .d x
    | _ => .no)
theorem back_get {r0 r : List Slot} {j : Nat} {z : Slot} : ∀ {vs : List Nat}, (backD r0 r vs)[j]? = some z → (j ∈ vs ∧ (z = .no ∨ ∃ x, z = .d x ∧ r0[j]? = some (.d x))) ∨ (j ∉ vs ∧ r[j]? = some z)
  | [], q => .inr ⟨by simp, q⟩
  | v :: vs, q => by
    unfold backD at q
    by_cases hj : j = v
    · subst hj
      refine .inl ⟨List.mem_cons_self, ?_⟩
      have hl : j < (backD r0 r vs).length := by
        have := (List.getElem?_eq_some_iff.mp q).1
        simpa using this
      rw [List.getElem?_set_self hl] at q
      cases q
      split
      · next x hx => exact .inr ⟨x, rfl, hx⟩
      · exact .inl rfl
    · rw [List.getElem?_set_ne (Ne.symm hj)] at q
      rcases back_get q with ⟨h1, h2⟩ | ⟨h1, h2⟩
      · exact .inl ⟨List.mem_cons_of_mem _ h1, h2⟩
      · exact .inr ⟨fun z => by rcases List.mem_cons.mp z with z | z; exact hj z; exact h1 z, h2⟩
theorem back_len {r0 r : List Slot} : ∀ vs : List Nat, (backD r0 r vs).length = r.length
  | [] => rfl
  | v :: vs => by unfold backD; rw [List.length_set, back_len vs]
theorem rel_back {K : PySem.W.Frag} {Z F F' : Hp} {μ μ' : List Addr} {c c' : Stt} {σ : St} {H H' : Hp} (h : Rel K Z F μ c σ H) (le : Le F μ F' μ') (vs : List Nat) (h' : Rel K Z F' μ' c' (wipe σ vs) H') : Rel K Z F' μ' ⟨backD c.r c'.r vs, c'.S⟩ σ H' := by
  have key : ∀ (j : Nat) (m : Cell), (backD c.r c'.r vs)[j]? = some (.own m) → c'.r[j]? = some (.own m) ∧ (wipe σ vs)[j]? = σ[j]? := fun j m q => by
    rcases back_get q with ⟨_, h2⟩ | ⟨h1, h2⟩
    · rcases h2 with h2 | ⟨x, h2, _⟩ <;> cases h2
    · exact ⟨h2, wipe_out h1⟩
  refine { ex := h'.ex, exz := h'.exz, fz := h'.fz, len := ?_, slot := fun j y q => ?_, own := fun j m q => ?_, dis := fun j k a m m' q1 q2 e1 e2 => ?_, lm := h'.lm, sto := h'.sto, dst := fun j n a m q e1 e2 => ?_, ndm := h'.ndm }
  · have := h'.len
    rw [wipe_length] at this
    rw [this]
    exact (back_len vs).symm
  · rcases back_get q with ⟨_, h2⟩ | ⟨h1, h2⟩
    · rcases h2 with h2 | ⟨x, h2, h3⟩
      · cases h2
      · cases h2
        obtain ⟨v, e1, e2⟩ := h.slot j y h3
        exact ⟨v, e1, e2.mono le⟩
    · obtain ⟨v, e1, e2⟩ := h'.slot j y h2
      rw [wipe_out h1] at e1
      exact ⟨v, e1, e2⟩
  · obtain ⟨q1, w⟩ := key j m q
    rw [← w]
    exact h'.own j m q1
  · obtain ⟨q1, w1⟩ := key j m q1
    obtain ⟨q2, w2⟩ := key k m' q2
    rw [← w1] at e1
    rw [← w2] at e2
    exact h'.dis j k a m m' q1 q2 e1 e2
  · obtain ⟨q, w⟩ := key j m q
    rw [← w] at e1
    exact h'.dst j n a m q e1 e2
/-- an object laid aside -/
theorem rel_aside {K : PySem.W.Frag} {Z F : Hp} {μ : List Addr} {c : Stt} {σ : St} {H : Hp} {p : Addr} {o : HO} (h : Rel K Z F μ c σ H) (hp : H p = some o) (n : Nob Z F μ c σ p) : Rel K (upd Z p o) F μ c σ H :=
  { ex := h.ex, exz := fun a x e => (by
      by_cases ha : a = p
      · subst ha; rw [upd_same] at e; cases e; exact hp
      · rw [upd_ne ha] at e; exact h.exz a x e), fz := fun a x e => (by
      by_cases ha : a = p
      · subst ha; exact n.f
      · rw [upd_ne ha] at e; exact h.fz a x e), len := h.len, slot := h.slot, own := fun i m q => (by
      obtain ⟨a, e1, c1, g1⟩ := h.own i m q
      have : a ≠ p := fun z => by subst z; exact n.no i m q e1
      exact ⟨a, e1, ⟨by rw [upd_ne this]; exact c1.z, c1.f, c1.o, c1.l⟩, g1⟩), dis := h.dis, lm := h.lm, sto := fun k a m e1 e2 => (by
      have c1 := h.sto k a m e1 e2
      have : a ≠ p := fun z => by subst z; exact n.nm k e1
      exact ⟨by rw [upd_ne this]; exact c1.z, c1.f, c1.o, c1.l⟩), dst := h.dst, ndm := h.ndm }
/-- .. is nobody's -/
theorem aside_nob {K : PySem.W.Frag} {Z F : Hp} {μ : List Addr} {c : Stt} {σ : St} {H : Hp} {p : Addr} {o : HO} (h : Rel K (upd Z p o) F μ c σ H) (hz : Z p = none) : Rel K Z F μ c σ H ∧ Nob Z F μ c σ p ∧ H p = some o := by
  have zs : ∀ a x, Z a = some x → upd Z p o a = some x := fun a x e => by
    have : a ≠ p := fun z => by subst z; rw [hz] at e; cases e
    rw [upd_ne this]; exact e
  have zn : ∀ a, upd Z p o a = none → Z a = none ∧ a ≠ p := fun a e => by
    have : a ≠ p := fun z => by subst z; rw [upd_same] at e; cases e
    rw [upd_ne this] at e
    exact ⟨e, this⟩
  refine ⟨{ ex := h.ex, exz := fun a x e => h.exz a x (zs a x e), fz := fun a x e => h.fz a x (zs a x e), len := h.len, slot := h.slot, own := fun i m q => (by
      obtain ⟨a, e1, c1, g1⟩ := h.own i m q
      exact ⟨a, e1, ⟨(zn a c1.z).1, c1.f, c1.o, c1.l⟩, g1⟩), dis := h.dis, lm := h.lm, sto := fun k a m e1 e2 => (by
      have c1 := h.sto k a m e1 e2
      exact ⟨(zn a c1.z).1, c1.f, c1.o, c1.l⟩), dst := h.dst, ndm := h.ndm }, ⟨h.fz p o upd_same, hz, fun i m q e => ?_, fun k e => ?_⟩, h.exz p o upd_same⟩
  · obtain ⟨a, e1, c1, _⟩ := h.own i m q
    rw [e] at e1; cases e1
    exact (zn _ c1.z).2 rfl
  · have hk : k < c.S.length := by rw [← h.lm]; exact (List.getElem?_eq_some_iff.mp e).1
    exact (zn _ (h.sto k p _ e (List.getElem?_eq_getElem hk)).z).2 rfl
/-- .. is written -/
theorem aside_put {K : PySem.W.Frag} {Z F : Hp} {μ : List Addr} {c : Stt} {σ : St} {H : Hp} {p : Addr} {o o' : HO} (h : Rel K (upd Z p o) F μ c σ H) (hz : Z p = none) : Rel K (upd Z p o') F μ c σ (upd H p o') := by
  obtain ⟨h1, n, hp⟩ := aside_nob h hz
  refine rel_aside (H := upd H p o') ?_ upd_same n
  have ne : ∀ {a : Addr} {x : HO}, F a = some x → a ≠ p := fun {a x} e z => by subst z; rw [n.f] at e; cases e
  refine { ex := fun a x e => (by rw [upd_ne (ne e)]; exact h1.ex a x e), exz := fun a x e => (by
      have : a ≠ p := fun z => by subst z; rw [hz] at e; cases e
      rw [upd_ne this]; exact h1.exz a x e), fz := h1.fz, len := h1.len, slot := h1.slot, own := fun i m q => (by
      obtain ⟨a, e1, c1, g1⟩ := h1.own i m q
      have : a ≠ p := fun z => by subst z; exact n.no i m q e1
      exact ⟨a, e1, ⟨c1.z, c1.f, (let ⟨u, e2, e3⟩ := c1.o; ⟨u, by rw [upd_ne this]; exact e2, e3⟩), fun g => by rw [upd_ne this]; exact c1.l g⟩, g1⟩), dis := h1.dis, lm := h1.lm, sto := fun k a m e1 e2 => (by
      have c1 := h1.sto k a m e1 e2
      have : a ≠ p := fun z => by subst z; exact n.nm k e1
      exact ⟨c1.z, c1.f, (let ⟨u, e2, e3⟩ := c1.o; ⟨u, by rw [upd_ne this]; exact e2, e3⟩), fun g => by rw [upd_ne this]; exact c1.l g⟩), dst := h1.dst, ndm := h1.ndm }

def itL (dg : D → M Unit) (dt : M Bool) (de : M D) (vs : List Nat) (r0 : List Slot) : List D → List D → M (List D)
  | [], acc => fun c => .ok acc ⟨wipeD c.r vs, c.S⟩
  | d :: r, acc => fun c => M.bind (M.ne (dg d)) (fun _ => M.bind (M.ne dt) fun k => if k = true then M.bind (M.ne de) fun y => fun c => if acc.length < 1000000 then itL dg dt de vs r0 r (acc ++ [y]) c else .no
    else itL dg dt de vs r0 r acc) ⟨wipeD c.r vs, c.S⟩
def dLc (di : M (List D)) (dg : D → M Unit) (dt : M Bool) (de : M D) (vs : List Nat) : M (List D) := M.bind di fun ds c => M.bind (itL dg dt de vs c.r ds []) (fun ys c' => .ok ys ⟨backD c.r c'.r vs, c'.S⟩) c
structure TsD (X : Cx) (W : WX) (ifs : List Expr) (t : TT) (d : M Bool) : Prop where
  pt : PTs X ifs t
  ev : EvT X.K W t d
theorem tsd_nil : TsD X W [] tYes (M.pure true) := ⟨pts_nil, fun Z F μ c σ H Q R p => p F μ H (Le.refl _ _) R⟩
theorem tsd_one {t : TT} {d : M Bool} (h : TD X W e t d) : TsD X W [e] t d := ⟨pts_one h.pt, h.ev⟩
theorem en_lc {W' : WX} {elt tg iter : Expr} {ifs : List Expr} {scope : Scope} {own : List (Str × Nat)} {wi : TI} {vs : List Nat} {g : TG} {tt : TT} {te : TE} {di : M (List D)} {dg : D → M Unit} {dt : M Bool} {de : M D} (hc : X.calm = true) (hN : X.N.Nodup) (hi : ID X W tg iter wi di) (ok : BlkOk X.N X.env.scope scope own)
    (hg : ∀ (s : Shared) (H : Hp) (C : Addr) (cl : List (Str × Addr)) (fp : List Addr), GD (X.blk s H scope (compEnvC scope cl C X.env) fp) tg vs g dg) (ht : ∀ (s : Shared) (H : Hp) (C : Addr) (cl : List (Str × Addr)) (fp : List Addr), TsD (X.blk s H scope (compEnvC scope cl C X.env) fp) W' ifs tt dt)
    (he : ∀ (s : Shared) (H : Hp) (C : Addr) (cl : List (Str × Addr)) (fp : List Addr), DD (X.blk s H scope (compEnvC scope cl C X.env) fp) W' elt te de) (hv : ∀ j ∈ vs, j ∈ own.map (·.2) := by decide) (hs : ∀ x, foldedSetIterable iter X.env x = pure x := by intro _; rfl) :
    EN X W (.ListComp elt [⟨tg, iter, ifs, 0⟩] scope pos) (tLc wi g tt te (own.map (·.2))) (dLc di dg dt de (own.map (·.2))) := by
  have eg : EvG X.K vs g dg := (hg {} (fun _ => none) 0 [] []).ev
  have et : EvT X.K W' tt dt := (ht {} (fun _ => none) 0 [] []).ev
  have ee : EvD X.K W' te de := (he {} (fun _ => none) 0 [] []).ev
  refine ⟨pe_lc hc hN hi.pi ok (fun s H C cl fp => (hg s H C cl fp).pg) (fun s H C cl fp => (ht s H C cl fp).pt) (fun s H C cl fp => (he s H C cl fp).pe) hs, fun Z F μ c σ H Q R p => ?_⟩
  generalize own.map (·.2) = us at hv p ⊢
  refine hi.ev Z F μ c σ H _ R (p.bind.imp fun ds c1 F1 μ1 H1 l1 R1 p1 J wk A hA => ?_)
  have nA := R1.nob hA
  have zA : Z A = none := nA.z
  -- what holds between two turns
  refine ⟨fun i m H' => m = ds.length - i ∧ i ≤ ds.length ∧ ∃ F' μ' c' ws acc, Le F1 μ1 F' μ' ∧ Rel X.K (upd Z A (.lst ws)) F' μ' ⟨wipeD c'.r us, c'.S⟩ (wipe σ us) H' ∧ Reps X.K F' μ' ws acc ∧ acc.length ≤ 1000000 ∧
      Post X.K Z F' μ' σ W (M.bind (itL dg dt de us c1.r (ds.drop i) acc) (fun ys c' => .ok ys ⟨backD c1.r c'.r us, c'.S⟩) c') (fun ds c' F' μ' H' => ∀ p vs, H' p = some (.lst vs) → Nob Z F' μ' c' σ p → Reps X.K F' μ' vs ds → Q (.ref p) H'),
    ⟨ds.length, by simp, Nat.zero_le _, F1, μ1, c1, [], [], Le.refl _ _, rel_wipe (rel_aside (R1.up (same_new hA)) upd_same ?_) us, .nil, Nat.zero_le _, p1⟩, ?_⟩
  · exact nA
  rintro i m H2 ⟨rfl, hi2, F2, μ2, c2, ws, acc, l2, R2, ra, hz, p2⟩
  have wk2 := wk.mono l2
  by_cases hlt : i < ds.length
  · refine .inr ⟨wk2.go i H2 R2.ex hlt, fun H' => ∃ F' μ' c' ws acc, Le F1 μ1 F' μ' ∧ Rel X.K (upd Z A (.lst ws)) F' μ' ⟨wipeD c'.r us, c'.S⟩ (wipe σ us) H' ∧ Reps X.K F' μ' ws acc ∧ acc.length ≤ 1000000 ∧
      Post X.K Z F' μ' σ W (M.bind (itL dg dt de us c1.r (ds.drop (i + 1)) acc) (fun ys c' => .ok ys ⟨backD c1.r c'.r us, c'.S⟩) c') (fun ds c' F' μ' H' => ∀ p vs, H' p = some (.lst vs) → Nob Z F' μ' c' σ p → Reps X.K F' μ' vs ds → Q (.ref p) H'),
      fun H' h => ⟨_, by omega, rfl, hlt, h⟩, fun x H' y => ?_⟩
    obtain ⟨d, e1, q⟩ := wk2.yld i H2 x H' R2.ex hlt y
    have ed : ds.drop i = d :: ds.drop (i + 1) := by
      rw [List.drop_eq_getElem_cons hlt]
      rw [List.getElem?_eq_getElem hlt] at e1
      rw [Option.some.inj e1]
    rw [ed] at p2
    obtain ⟨F3, l3, R3, r3⟩ : ∃ F3, Le F2 μ2 F3 μ2 ∧ Rel X.K (upd Z A (.lst ws)) F3 μ2 ⟨wipeD c2.r us, c2.S⟩ (wipe σ us) H' ∧ Rep X.K F3 μ2 x d := by
      rcases q with ⟨rfl, r⟩ | ⟨T, xs, es, h1, rfl, rfl, rfl, r⟩
      · exact ⟨F2, Le.refl _ _, R2, r⟩
      · obtain ⟨R3, l3⟩ := R2.new (o := .tup xs) h1
        exact ⟨_, l3, R3, .tup (.of upd_same) (r.mono l3)⟩
    replace p2 := p2.le l3
    have ra3 := ra.mono l3
    unfold itL at p2
    unfold M.bind M.ne at p2
    dsimp only at p2
    cases q2 : dg d ⟨wipeD c2.r us, c2.S⟩ with
    | no => rw [q2] at p2; exact p2.elim
    | ex _ _ => rw [q2] at p2; exact p2.elim
    | ok u c3 =>
      rw [q2] at p2
      dsimp only at p2
      refine eg _ F3 μ2 _ (wipe σ us) H' _ x d R3 r3 ⟨c3, q2, fun σ3 R4 w3 => ?_⟩
      have ew : wipe σ3 us = wipe σ us := by
        rw [w3 us hv]
        have ww : ∀ vs : List Nat, (∀ j ∈ vs, j ∈ us) → wipe (wipe σ vs) us = wipe σ us := by
          intro vs
          induction vs with
          | nil => intro _; rfl
          | cons v vs ih =>
            intro hh
            show wipe ((wipe σ vs).set v none) us = wipe σ us
            rw [wipe_set (hh v List.mem_cons_self)]
            exact ih fun j hj => hh j (List.mem_cons_of_mem _ hj)
        exact ww us fun _ h => h
      refine ⟨ew, et _ F3 μ2 c3 σ3 H' _ R4 ?_⟩
      cases q3 : dt c3 with
      | no => rw [q3] at p2; exact p2.elim
      | ex _ _ => rw [q3] at p2; exact p2.elim
      | ok k c4 =>
        rw [q3] at p2
        dsimp only at p2
        refine fun F4 μ4 H4 l4 R5 => ?_
        replace p2 := p2.le l4
        cases k with
        | false =>
          refine ⟨F4, μ4, c4, ws, acc, (l2.trans l3).trans l4, ?_, ra3.mono l4, hz, p2⟩
          have := rel_wipe R5 us
          rw [ew] at this
          exact this
        | true =>
          rw [if_pos rfl] at p2
          show te σ3 H4 _
          refine ee _ F4 μ4 c4 σ3 H4 _ R5 ?_
          cases q4 : de c4 with
          | no => rw [q4] at p2; exact p2.elim
          | ex _ _ => rw [q4] at p2; exact p2.elim
          | ok z c5 =>
            rw [q4] at p2
            dsimp only at p2
            refine fun F5 μ5 H5 l5 R6 v rv => ?_
            replace p2 := p2.le l5
            have ra5 := (ra3.mono l4).mono l5
            obtain ⟨_, _, hA5⟩ := aside_nob R6 zA
            by_cases hz5 : acc.length < 1000000
            · rw [if_pos hz5] at p2
              have hw : ws.length < sizeLine := Nat.lt_of_lt_of_le (by rw [ra5.length]; exact hz5) (small6 (Nat.le_refl _))
              refine ⟨ws, hA5, hw, F5, μ5, c5, ws ++ [v], acc ++ [z], ((l2.trans l3).trans l4).trans l5, ?_, ra5.snoc rv, by rw [List.length_append, List.length_singleton]; exact hz5, p2⟩
              have := rel_wipe (aside_put R6 zA (o' := .lst (ws ++ [v]))) us
              rw [ew] at this
              exact this
            · rw [if_neg hz5] at p2
              exact p2.elim
  · have e1 : ds.drop i = [] := List.drop_eq_nil_of_le (by omega)
    rw [e1] at p2
    obtain ⟨R3, n3, hA3⟩ := aside_nob R2 zA
    have R4 := rel_back R1 l2 us R3
    exact .inl ⟨wk2.stop i H2 R2.ex (by omega), p2 F2 μ2 H2 (Le.refl _ _) R4 A ws hA3 ⟨n3.f, n3.z, fun j m' q e => by
      obtain ⟨a, e2, c2', _⟩ := R4.own j m' q
      rw [e] at e2; cases e2
      rcases back_get q with ⟨_, h2⟩ | ⟨h1, h2⟩
      · rcases h2 with h2 | ⟨x, h2, _⟩ <;> cases h2
      · exact n3.no j m' h2 (by rw [wipe_out h1]; exact e), n3.nm⟩ ra⟩
theorem sd_setLc {W' : WX} {i : Nat} {y : Str} {py spos : Pos} {elt tg iter : Expr} {ifs : List Expr} {scope : Scope} {own : List (Str × Nat)} {wi : TI} {vs : List Nat} {g : TG} {tt : TT} {te : TE} {di : M (List D)} {dg : D → M Unit} {dt : M Bool} {de : M D} (hc : X.calm = true) (hN : X.N.Nodup) (hy : X.N[i]? = some y) (hyl : X.env.scope.names.lookup y = some .local)
    (hsw : swapsWith (.ListComp elt [⟨tg, iter, ifs, 0⟩] scope pos) (some (.Name y py)) spos.line X.env = pure true) (hi : ID X W tg iter wi di) (ok : BlkOk X.N X.env.scope scope own)
    (hg : ∀ (s : Shared) (H : Hp) (C : Addr) (cl : List (Str × Addr)) (fp : List Addr), GD (X.blk s H scope (compEnvC scope cl C X.env) fp) tg vs g dg) (ht : ∀ (s : Shared) (H : Hp) (C : Addr) (cl : List (Str × Addr)) (fp : List Addr), TsD (X.blk s H scope (compEnvC scope cl C X.env) fp) W' ifs tt dt)
    (he : ∀ (s : Shared) (H : Hp) (C : Addr) (cl : List (Str × Addr)) (fp : List Addr), DD (X.blk s H scope (compEnvC scope cl C X.env) fp) W' elt te de) (hv : ∀ j ∈ vs, j ∈ own.map (·.2) := by decide) (hs : ∀ x, foldedSetIterable iter X.env x = pure x := by intro _; rfl) :
    SD X W (.Assign [.Name y py] (.ListComp elt [⟨tg, iter, ifs, 0⟩] scope pos) spos) (tAsg (tLc wi g tt te (own.map (·.2))) (gName i)) (dSetN i (dLc di dg dt de (own.map (·.2)))) :=
  ⟨ps_setLc hc hN hy hyl hsw hi.pi ok (fun s H C cl fp => (hg s H C cl fp).pg) (fun s H C cl fp => (ht s H C cl fp).pt) (fun s H C cl fp => (he s H C cl fp).pe) hs, ev_setN (en_lc (pos := pos) hc hN hi ok hg ht he hv hs).ev⟩
end

/-! ### a def -/
/-- what a body computes: n slots, k operands -/
def runD (n k : Nat) (b : M Fl) : G := fun ds S => if ds.length = k then match b ⟨ds.map .d ++ List.replicate (n - k) .no, S⟩ with
    | .ok (.rt d) c => .ok d c.S
    | .ok .nx c => .ok (.v .non) c.S
    | .ex e c => .ex e c.S
    | _ => .no
  else .no
theorem rel_start {K : PySem.W.Frag} {Z F : Hp} {μ : List Addr} {S : List Cell} {H : Hp} {vs : List V} {ds : List D} {N : List Str} {k : Nat} (h : Rel K Z F μ ⟨[], S⟩ [] H) (rs : Reps K F μ vs ds) (hk : ds.length = k) (hN : k ≤ N.length) :
    Rel K Z F μ ⟨ds.map .d ++ List.replicate (N.length - k) .no, S⟩ (L2.start N vs) H := by
  have hv : vs.length = k := by rw [rs.length]; exact hk
  have noown : ∀ (i : Nat) (m : Cell), (ds.map Slot.d ++ List.replicate (N.length - k) .no)[i]? ≠ some (.own m) := fun i m q => by
    rw [List.getElem?_append] at q
    split at q
    · rw [List.getElem?_map] at q
      cases e : ds[i]? with
      | none => rw [e] at q; cases q
      | some d => rw [e] at q; cases q
    · rw [List.getElem?_replicate] at q
      split at q <;> cases q
  refine { ex := h.ex, exz := h.exz, fz := h.fz, len := ?_, slot := fun i x q => ?_, own := fun i m q => absurd q (noown i m), dis := fun i j a m m' q => absurd q (noown i m), lm := h.lm, sto := h.sto, dst := fun i n a m q => absurd q (noown i m), ndm := h.ndm }
  · unfold L2.start
    simp [hv, hk]
  · have q : (ds.map Slot.d ++ List.replicate (N.length - k) Slot.no)[i]? = some (.d x) := q
    rw [List.getElem?_append] at q
    split at q
    · next hi =>
      rw [List.getElem?_map] at q
      cases e : ds[i]? with
      | none => rw [e] at q; cases q
      | some d =>
        rw [e] at q
        cases q
        obtain ⟨v, e1, r⟩ := rs.get e
        refine ⟨v, ?_, r⟩
        unfold L2.start
        rw [List.getElem?_append_left (by rw [List.length_map]; exact (List.getElem?_eq_some_iff.mp e1).1), List.getElem?_map, e1]
        rfl
    · rw [List.getElem?_replicate] at q
      split at q <;> cases q
theorem fn_ok {P : Program} {w : World} {K : PySem.W.Frag} {mg : Str → Option Value} {base : Heap} {x qual : Str} {st : Stmt} {f : Addr} {fd : FuncData} {N ps : List Str} {j k : Nat} {b : M Fl} (F : Fun K x qual st f fd) (S : FnScope N ps (defScope st)) (hk : ps.length = k) (hN : k ≤ N.length)
    (body : ∀ (cdv : Value) (A : Around) (outer : List Env) (s : Shared) (H : Hp) (E : XK), Room j (A.deeper (PyProof.Rows.envOfC qual (defScope st) s.heap.objs.size f cdv)) →
      ∃ t, BD (cxOf (L2.CX P w) P w K mg base N qual (defScope st) f cdv A outer s H E) (fun cls d _ H => E cls d H) (defBody st) t b) : FnOk P w K mg base (L2.CX P w) (j + 1) f fd ps (spG K (runD N.length k b)) := by
  refine F.okX S (fun vs H Q E h => ?_) (fun cdv A outer s H vs Q E hr h => ?_)
  · obtain ⟨Z, F, μ, S, ds, _, rs, p⟩ := h
    unfold runD at p
    split at p
    · next hl => rw [rs.length, hl, hk]
    · exact p.elim
  · obtain ⟨t, B⟩ := body cdv A outer s H E hr
    refine ⟨t, B.ps, ?_⟩
    obtain ⟨Z, F, μ, S, ds, R, rs, p⟩ := h
    unfold runD at p
    split at p
    · next hl =>
      refine B.ev Z F μ _ _ H _ (rel_start R rs hl hN) ?_
      have strip : ∀ {F' : Hp} {μ' : List Addr} {c : Stt} {σ' : St} {H' : Hp}, Rel K Z F' μ' c σ' H' → Rel K Z F' μ' ⟨[], c.S⟩ [] H' := fun h =>
        { ex := h.ex, exz := h.exz, fz := h.fz, len := rfl, slot := fun i x e => by simp at e, own := fun i x e => by simp at e, dis := fun i j a m m' e => by simp at e, lm := h.lm, sto := h.sto, dst := fun i n a m e => by simp at e, ndm := h.ndm }
      cases e : b ⟨ds.map .d ++ List.replicate (N.length - k) .no, S⟩ with
      | no => rw [e] at p; exact p.elim
      | ex x c => rw [e] at p; exact fun cls od σ' F' μ' H' l R' rx => p cls od F' μ' H' l (strip R') rx
      | ok fl c =>
        rw [e] at p
        cases fl with
        | nx => exact fun σ' F' μ' H' l R' => p .non F' μ' H' l (strip R') (.v _)
        | rt d => exact fun v σ' F' μ' H' l R' rv => p v F' μ' H' l (strip R') rv
        | bk => exact p.elim
        | ct => exact p.elim
    · exact p.elim
/-- another function that is no less defined -/
theorem FnOk.by {P : Program} {w : World} {K : PySem.W.Frag} {mg : Str → Option Value} {base : Heap} {CX : CXT} {k : Nat} {f : Addr} {fd : FuncData} {ps : List Str} {g g' : G} (F : FnOk P w K mg base CX k f fd ps (spG K g)) (h : ∀ ds S, g' ds S ≠ .no → g ds S = g' ds S) : FnOk P w K mg base CX k f fd ps (spG K g') :=
  L2.FnOk.imp F fun vs H Q E ⟨Z, F, μ, S, ds, R, rs, p⟩ => ⟨Z, F, μ, S, ds, R, rs, by
    have hn : g' ds S ≠ .no := fun z => by rw [z] at p; exact p
    rw [h ds S hn]
    exact p⟩
end My

set_option Elab.async false
set_option linter.all false
set_option maxRecDepth 100000
set_option maxHeartbeats 4000000
/-! F7: built-ins, slices, lists by their methods. -/
namespace My
open PySem L2

/-! ### lists of ints, of truths -/
def intsD : List D → Option (List Int)
  | [] => some []
  | .v (.int i) :: ds => (intsD ds).map (i :: ·)
  | _ => none
def blsD : List D → Option (List Bool)
  | [] => some []
  | .v (.bl b) :: ds => (blsD ds).map (b :: ·)
  | _ => none
def strsD : List D → Option (List Str)
  | [] => some []
  | .v (.str x) :: ds => (strsD ds).map (x :: ·)
  | _ => none
section
variable {K : PySem.W.Frag} {F : Hp} {μ : List Addr}
theorem ints_of : ∀ {ds : List D} {vs : List V} {ns : List Int}, Reps K F μ vs ds → intsD ds = some ns → vs = ns.map V.int
  | [], _, _, h, e => by cases h; unfold intsD at e; cases e; rfl
  | .v x :: ds, _, _, h, e => by
    cases h with
    | cons h r =>
      cases h
      cases x with
      | int i =>
        unfold intsD at e
        cases q : intsD ds with
        | none => rw [q] at e; cases e
        | some ms => rw [q] at e; cases e; rw [ints_of r q]; rfl
      | _ => unfold intsD at e; cases e
  | .tup _ :: _, _, _, _, e => by unfold intsD at e; cases e
  | .lst _ :: _, _, _, _, e => by unfold intsD at e; cases e
  | .scr _ :: _, _, _, _, e => by unfold intsD at e; cases e
  | .dct _ :: _, _, _, _, e => by unfold intsD at e; cases e
  | .ins _ _ :: _, _, _, _, e => by unfold intsD at e; cases e
  | .loc _ :: _, _, _, _, e => by unfold intsD at e; cases e
theorem bls_of : ∀ {ds : List D} {vs : List V} {ns : List Bool}, Reps K F μ vs ds → blsD ds = some ns → vs = ns.map V.bl
  | [], _, _, h, e => by cases h; unfold blsD at e; cases e; rfl
  | .v x :: ds, _, _, h, e => by
    cases h with
    | cons h r =>
      cases h
      cases x with
      | bl i =>
        unfold blsD at e
        cases q : blsD ds with
        | none => rw [q] at e; cases e
        | some ms => rw [q] at e; cases e; rw [bls_of r q]; rfl
      | _ => unfold blsD at e; cases e
  | .tup _ :: _, _, _, _, e => by unfold blsD at e; cases e
  | .lst _ :: _, _, _, _, e => by unfold blsD at e; cases e
  | .scr _ :: _, _, _, _, e => by unfold blsD at e; cases e
  | .dct _ :: _, _, _, _, e => by unfold blsD at e; cases e
  | .ins _ _ :: _, _, _, _, e => by unfold blsD at e; cases e
  | .loc _ :: _, _, _, _, e => by unfold blsD at e; cases e
theorem strs_of : ∀ {ds : List D} {vs : List V} {ns : List Str}, Reps K F μ vs ds → strsD ds = some ns → vs = ns.map V.str
  | [], _, _, h, e => by cases h; unfold strsD at e; cases e; rfl
  | .v x :: ds, _, _, h, e => by
    cases h with
    | cons h r =>
      cases h
      cases x with
      | str i =>
        unfold strsD at e
        cases q : strsD ds with
        | none => rw [q] at e; cases e
        | some ms => rw [q] at e; cases e; rw [strs_of r q]; rfl
      | _ => unfold strsD at e; cases e
  | .tup _ :: _, _, _, _, e => by unfold strsD at e; cases e
  | .lst _ :: _, _, _, _, e => by unfold strsD at e; cases e
  | .scr _ :: _, _, _, _, e => by unfold strsD at e; cases e
  | .dct _ :: _, _, _, _, e => by unfold strsD at e; cases e
  | .ins _ _ :: _, _, _, _, e => by unfold strsD at e; cases e
  | .loc _ :: _, _, _, _, e => by unfold strsD at e; cases e
end
/-- a list that may be read (no tuple) -/
def rdlD (c : Stt) : O → Option (List D)
  | .d (.scr ds) => some ds
  | o => lstD c o
theorem rdl_at {K : PySem.W.Frag} {Z F : Hp} {μ : List Addr} {c : Stt} {σ : St} {H : Hp} {v : V} {o : O} {ds : List D} (h : Rel K Z F μ c σ H) (r : RepO K F μ σ v o) (e : rdlD c o = some ds) : ∃ a vs, v = .ref a ∧ SqL K H a vs ∧ Reps K F μ vs ds := by
  unfold rdlD at e
  split at e
  · cases r with
    | d r =>
      cases r with
      | scr hq rs => cases e; exact ⟨_, _, rfl, h.ex.seq hq, rs⟩
  · obtain ⟨a, vs, e1, e2, e3⟩ := lst_at h r e
    exact ⟨a, vs, e1, .of e2, e3⟩
section
variable {K : PySem.W.Frag} {W : WX}
def gSum : O → M D := fun a c => match (rdlD c a).bind intsD with
  | some ns => .ok (.v (.int ns.sum)) c
  | none => .no
def gAll : O → M D := fun a c => match (rdlD c a).bind blsD with
  | some bs => .ok (.v (.bl (bs.all id))) c
  | none => .no
def gAny : O → M D := fun a c => match (rdlD c a).bind blsD with
  | some bs => .ok (.v (.bl (bs.any id))) c
  | none => .no
theorem c1_sum : C1S K W (rSum K) gSum := fun Z F μ c σ H Q x a R rx p => by
  unfold gSum at p
  split at p
  · next ns hn =>
    cases q : rdlD c a with
    | none => rw [q] at hn; cases hn
    | some ds =>
      rw [q] at hn
      obtain ⟨l, vs, rfl, h1, q1⟩ := rdl_at R rx q
      have := ints_of q1 hn
      subst this
      exact ⟨l, ns, rfl, h1, p F μ H (Le.refl _ _) R _ (.v _)⟩
  · exact p.elim
theorem c1_all : C1S K W (rAll K) gAll := fun Z F μ c σ H Q x a R rx p => by
  unfold gAll at p
  split at p
  · next ns hn =>
    cases q : rdlD c a with
    | none => rw [q] at hn; cases hn
    | some ds =>
      rw [q] at hn
      obtain ⟨l, vs, rfl, h1, q1⟩ := rdl_at R rx q
      have := bls_of q1 hn
      subst this
      exact ⟨l, ns, rfl, h1, p F μ H (Le.refl _ _) R _ (.v _)⟩
  · exact p.elim
theorem c1_any : C1S K W (rAny K) gAny := fun Z F μ c σ H Q x a R rx p => by
  unfold gAny at p
  split at p
  · next ns hn =>
    cases q : rdlD c a with
    | none => rw [q] at hn; cases hn
    | some ds =>
      rw [q] at hn
      obtain ⟨l, vs, rfl, h1, q1⟩ := rdl_at R rx q
      have := bls_of q1 hn
      subst this
      exact ⟨l, ns, rfl, h1, p F μ H (Le.refl _ _) R _ (.v _)⟩
  · exact p.elim
/-- the greatest, the least of some whole numbers -/
def maxL : List Int → Int
  | [] => 0
  | [x] => x
  | x :: y :: r => if maxL (y :: r) > x then maxL (y :: r) else x
def minL : List Int → Int
  | [] => 0
  | [x] => x
  | x :: y :: r => if minL (y :: r) < x then minL (y :: r) else x
theorem maxL_mem : ∀ {ns : List Int}, ns ≠ [] → maxL ns ∈ ns
  | [], h => absurd rfl h
  | [x], _ => by simp [maxL]
  | x :: y :: r, _ => by
    unfold maxL
    split
    · exact List.mem_cons_of_mem _ (maxL_mem (by simp))
    · exact List.mem_cons_self
theorem maxL_ge : ∀ {ns : List Int} {z : Int}, z ∈ ns → z ≤ maxL ns
  | [], _, h => by simp at h
  | [x], z, h => by
    have : z = x := by simpa using h
    simp [maxL, this]
  | x :: y :: r, z, h => by
    unfold maxL
    rcases List.mem_cons.mp h with e | h
    · subst e
      split <;> omega
    · have := maxL_ge h
      split <;> omega
theorem minL_mem : ∀ {ns : List Int}, ns ≠ [] → minL ns ∈ ns
  | [], h => absurd rfl h
  | [x], _ => by simp [minL]
  | x :: y :: r, _ => by
    unfold minL
    split
    · exact List.mem_cons_of_mem _ (minL_mem (by simp))
    · exact List.mem_cons_self
theorem minL_le : ∀ {ns : List Int} {z : Int}, z ∈ ns → minL ns ≤ z
  | [], _, h => by simp at h
  | [x], z, h => by
    have : z = x := by simpa using h
    simp [minL, this]
  | x :: y :: r, z, h => by
    unfold minL
    rcases List.mem_cons.mp h with e | h
    · subst e
      split <;> omega
    · have := minL_le h
      split <;> omega
def gMaxL : O → M D := fun a c => match (rdlD c a).bind intsD with
  | some ns => if 0 < ns.length then .ok (.v (.int (maxL ns))) c else .no
  | none => .no
def gMinL : O → M D := fun a c => match (rdlD c a).bind intsD with
  | some ns => if 0 < ns.length then .ok (.v (.int (minL ns))) c else .no
  | none => .no
theorem c1_max : C1S K W (rMax K) gMaxL := fun Z F μ c σ H Q x a R rx p => by
  unfold gMaxL at p
  split at p
  · next ns hn =>
    split at p
    · next h0 =>
      cases q : rdlD c a with
      | none => rw [q] at hn; cases hn
      | some ds =>
        rw [q] at hn
        obtain ⟨l, vs, rfl, h1, q1⟩ := rdl_at R rx q
        have := ints_of q1 hn
        subst this
        have hne : ns ≠ [] := fun z => by subst z; cases h0
        refine ⟨l, ns, rfl, h1, h0, fun m hm hle => ?_⟩
        have e : m = maxL ns := Int.le_antisymm (maxL_ge hm) (hle _ (maxL_mem hne))
        rw [e]
        exact p F μ H (Le.refl _ _) R _ (.v _)
    · exact p.elim
  · exact p.elim
theorem c1_min : C1S K W (rMin K) gMinL := fun Z F μ c σ H Q x a R rx p => by
  unfold gMinL at p
  split at p
  · next ns hn =>
    split at p
    · next h0 =>
      cases q : rdlD c a with
      | none => rw [q] at hn; cases hn
      | some ds =>
        rw [q] at hn
        obtain ⟨l, vs, rfl, h1, q1⟩ := rdl_at R rx q
        have := ints_of q1 hn
        subst this
        have hne : ns ≠ [] := fun z => by subst z; cases h0
        refine ⟨l, ns, rfl, h1, h0, fun m hm hle => ?_⟩
        have e : m = minL ns := Int.le_antisymm (hle _ (minL_mem hne)) (minL_le hm)
        rw [e]
        exact p F μ H (Le.refl _ _) R _ (.v _)
    · exact p.elim
  · exact p.elim
/-- tuple(x) -/
def gTupOf : O → M D := fun a c => match a with
  | .d (.tup ds) => .ok (.tup ds) c
  | a => match rdlD c a with
    | some ds => .ok (.tup ds) c
    | none => .no
theorem c1_tup : C1S K W (fun xs H Q => ∃ p ys, xs = [.ref p] ∧ ((SqL K H p ys ∧ ∀ l, H l = none → Q (.ref l) (upd H l (.tup ys))) ∨ (SqT K H p ys ∧ Q (.ref p) H))) gTupOf := fun Z F μ c σ H Q x a R rx p => by
  unfold gTupOf at p
  split at p
  · next ds =>
    cases rx with
    | d r =>
      have r' := r
      cases r with
      | tup hq rs => exact ⟨_, _, rfl, .inr ⟨Same.seqT R.ex hq, p F μ H (Le.refl _ _) R _ r'⟩⟩
  · split at p
    · next ds hs =>
      obtain ⟨l, vs, rfl, h1, q1⟩ := rdl_at R rx hs
      refine ⟨l, vs, rfl, .inl ⟨h1, fun q hq => ?_⟩⟩
      obtain ⟨R2, l2⟩ := R.new (o := .tup vs) hq
      exact p _ _ _ l2 R2 _ (.tup (.of upd_same) (q1.mono l2))
    · exact p.elim
end
section
variable {X : Cx} {W : WX}
theorem bSum {K : PySem.W.Frag} (hc : X.calm = true) (hK : X.K = K := by rfl) : B1 X W (.builtin "sum") (rSum K) gSum := by
  subst hK
  exact ⟨cr_sum hc, c1_sum⟩
theorem bAll {K : PySem.W.Frag} (hc : X.calm = true) (hK : X.K = K := by rfl) : B1 X W (.builtin "all") (rAll K) gAll := by
  subst hK
  exact ⟨cr_all hc, c1_all⟩
theorem bAny {K : PySem.W.Frag} (hc : X.calm = true) (hK : X.K = K := by rfl) : B1 X W (.builtin "any") (rAny K) gAny := by
  subst hK
  exact ⟨cr_any hc, c1_any⟩
theorem bMax {K : PySem.W.Frag} (hc : X.calm = true) (hK : X.K = K := by rfl) : B1 X W (.builtin "max") (rMax K) gMaxL := by
  subst hK
  exact ⟨cr_max hc, c1_max⟩
theorem bMin {K : PySem.W.Frag} (hc : X.calm = true) (hK : X.K = K := by rfl) : B1 X W (.builtin "min") (rMin K) gMinL := by
  subst hK
  exact ⟨cr_min hc, c1_min⟩
def rTupOf (K : PySem.W.Frag) : List V → Hp → VK → Prop := fun xs H Q => ∃ p ys, xs = [.ref p] ∧ ((SqL K H p ys ∧ ∀ l, H l = none → Q (.ref l) (upd H l (.tup ys))) ∨ (SqT K H p ys ∧ Q (.ref p) H))
theorem bTup {K : PySem.W.Frag} (hK : X.K = K := by rfl) : B1 X W (.type "tuple") (rTupOf K) gTupOf := by
  subst hK
  exact ⟨call_tuple_of, c1_tup⟩
end
section
variable {X : Cx} {W : WX} {a b : Expr} {t ta tb : TE} {pos : Pos} {da db : M O}
/-- list(x) -/
def dListOf (da : M O) : M (List D) := M.bind da fun a c => match seqD c a with
  | some ds => .ok ds c
  | none => .no
def rListOf (K : PySem.W.Frag) : List V → Hp → VK → Prop := fun xs H Q => ∃ p ys, xs = [.ref p] ∧ (SqL K H p ys ∨ SqT K H p ys) ∧ ∀ l, H l = none → Q (.ref l) (upd H l (.lst ys))
theorem en_listOf {K : PySem.W.Frag} {p : Pos} (hg : Gl X "list") (hm : X.mg "list" = none) (hv : bootBuiltins "list" = some (.type "list")) (ha : ED X W a ta da)
    (hs : starEach [a] X.env = (false, eval a X.env) :: starEach [] X.env := by rfl)
    (he : starEach [a] X.env = (false, eval a X.env) :: starEach [] X.env := by rfl) (hpl : (backTo pos (starEach [] X.env)).any (·.1) = false := by rfl) (hK : X.K = K := by rfl) :
    EN X W (.Call (.Name "list" p) [a] [] pos) (tCB (rListOf K) (tCons ta tNil)) (dListOf da) := by
  subst hK
  exact ⟨pe_callTy call_list_of hg hm hv (pa_cons ha.pe pa_nil hs) (by decide) (by decide) he hpl, fun Z F μ c σ H Q R p => ha.ev Z F μ c σ H _ R (p.bind.imp fun o c1 F1 μ1 H1 l1 R1 p1 v1 r1 => by
    split at p1
    · next ds hs =>
      obtain ⟨l, vs, rfl, h1, q1⟩ := seq_at R1 r1 hs
      refine ⟨l, vs, rfl, h1, fun q hq => ?_⟩
      exact p1 F1 μ1 _ (Le.refl _ _) (R1.up (same_new hq)) q vs upd_same (R1.nob hq) q1
    · exact p1.elim)⟩
/-- max, min of two whole numbers -/
def g2I (f : Int → Int → Int) : List D → M D := fun ds c => match ds with
  | [.v (.int i), .v (.int j)] => .ok (.v (.int (f i j))) c
  | _ => .no
def r2C (f : Int → Int → Int) : List V → Hp → VK → Prop := fun xs H Q => ∃ i j, xs = [.int i, .int j] ∧ Q (.int (f i j)) H
def fMax (i j : Int) : Int := if j > i then j else i
def fMin (i j : Int) : Int := if j < i then j else i
theorem dd_b2 {id : String} {x : Str} {p : Pos} {f : Int → Int → Int} {tr : TA} {dr : M (List D)} (hc : CallR X (.builtin id) (r2C f)) (hg : Gl X x) (hm : X.mg x = none) (hv : bootBuiltins x = some (.builtin id)) (ha : AD X W [a, b] tr dr)
    (hn : x ≠ "__name__" := by decide) (hdb : (x == ("__debug__" : Str)) = false := by decide)
    (he : starEach [a, b] X.env = (false, eval a X.env) :: starEach [b] X.env := by rfl) (hpl : (backTo pos (starEach [b] X.env)).any (·.1) = false := by rfl) :
    DD X W (.Call (.Name x p) [a, b] [] pos) (tCB (r2C f) tr) (M.bind dr (g2I f)) :=
  ⟨pe_callB hc hg hm hv ha.pa hn hdb he hpl, fun Z F μ c σ H Q R p => ha.ev Z F μ c σ H _ R (p.bind.imp fun ds c1 F1 μ1 H1 l1 R1 p1 vs rs => by
    unfold g2I at p1
    split at p1
    · cases rs with
      | cons r rs =>
        cases r
        cases rs with
        | cons r rs =>
          cases r
          cases rs
          exact ⟨_, _, rfl, p1 F1 μ1 H1 (Le.refl _ _) R1 _ (.v _)⟩
    · exact p1.elim)⟩
theorem call_max2' (hc : X.calm = true) : CallR X (.builtin "max") (r2C fMax) := call_max2 hc
theorem call_min2' (hc : X.calm = true) : CallR X (.builtin "min") (r2C fMin) := call_min2 hc
/-- divmod -/
def gDm : List D → M D := fun ds c => match ds with
  | [.v (.int i), .v (.int j)] => if 0 < j ∧ j.natAbs.log2 < 9000 then .ok (.tup [.v (.int (i / j)), .v (.int (i % j))]) c else .no
  | _ => .no
def rDm : List V → Hp → VK → Prop := fun xs H Q => ∃ i j, xs = [.int i, .int j] ∧ (0 < j ∧ j.natAbs.log2 < 9000) ∧ ∀ p, H p = none → Q (.ref p) (upd H p (.tup [.int (i / j), .int (i % j)]))
theorem call_divmodW : CallR X (.builtin "divmod") rDm := by
  intro pins s σ H xs us Q I r h
  obtain ⟨i, j, rfl, ⟨h1, h2⟩, q⟩ := h
  obtain ⟨u, w', rfl, ⟨t, rfl⟩, ⟨t', rfl⟩⟩ := vals2 r
  have hj : j ≠ 0 := by omega
  have hj0 : 0 ≤ j := by omega
  refine PyProof.Rows.divmod_int hj ?_ (.inl (PyProof.noPylong_of_log2 h2))
  rw [Int.fdiv_eq_ediv_of_nonneg i hj0, Int.fmod_eq_emod_of_nonneg i hj0]
  have hn := I.fresh
  have two : (2 : Nat) ≤ sizeLine := by decide
  have va : Vals [V.int (i / j), V.int (i % j)] [.int (i / j) s.toks, .int (i % j) (s.toks + 1)] := Vals.append (xs := [V.int (i / j)]) (us := [.int (i / j) s.toks]) (.cons ⟨_, rfl⟩ .nil) (.cons ⟨_, rfl⟩ .nil)
  refine ⟨.ref s.heap.objs.size, _, ?_, rfl, q _ hn⟩
  exact I.laid (fun _ _ z => Heap.get?_push_of_some _ z) (Nat.le_refl _) ⟨two, _, va, ⟨_, Heap.get?_push_size s.heap rfl, rfl, 0, rfl⟩⟩
theorem dd_divmod {x : Str} {p : Pos} {tr : TA} {dr : M (List D)} (hg : Gl X "divmod") (hm : X.mg "divmod" = none) (hv : bootBuiltins "divmod" = some (.builtin "divmod")) (ha : AD X W [a, b] tr dr)
    (he : starEach [a, b] X.env = (false, eval a X.env) :: starEach [b] X.env := by rfl) (hpl : (backTo pos (starEach [b] X.env)).any (·.1) = false := by rfl) :
    DD X W (.Call (.Name "divmod" p) [a, b] [] pos) (tCB rDm tr) (M.bind dr gDm) :=
  ⟨pe_callB call_divmodW hg hm hv ha.pa (by decide) (by decide) he hpl, fun Z F μ c σ H Q R p => ha.ev Z F μ c σ H _ R (p.bind.imp fun ds c1 F1 μ1 H1 l1 R1 p1 vs rs => by
    unfold gDm at p1
    split at p1
    · split at p1
      · next hz =>
        cases rs with
        | cons r rs =>
          cases r
          cases rs with
          | cons r rs =>
            cases r
            cases rs
            refine ⟨_, _, rfl, hz, fun q hq => ?_⟩
            obtain ⟨R2, l2⟩ := R1.new (o := .tup [.int _, .int _]) hq
            exact p1 _ _ _ l2 R2 _ (.tup (.of upd_same) (.cons (.v _) (.cons (.v _) .nil)))
      · exact p1.elim
    · exact p1.elim)⟩

/-! ### slices -/
structure OD (X : Cx) (W : WX) (e : Option Expr) (t : TO) (d : M (Option Int)) : Prop where
  po : PO X e t
  ev : ∀ (Z F : Hp) (μ : List Addr) (c : Stt) (σ : St) (H : Hp) (Q : Option Int → Hp → Prop), Rel X.K Z F μ c σ H → Post X.K Z F μ σ W (d c) (fun o _ _ _ H' => Q o H') → t σ H Q
theorem od_none : OD X W none tNoPart (M.pure none) := ⟨po_none, fun Z F μ c σ H Q R p => p F μ H (Le.refl _ _) R⟩
def gPart (o : O) : M (Option Int) := fun c => match o with
  | .d (.v (.int i)) => .ok (some i) c
  | _ => .no
theorem od_some (h : ED X W a ta da) : OD X W (some a) (tPart ta) (M.bind da gPart) := ⟨po_some h.pe, fun Z F μ c σ H Q R p => h.ev Z F μ c σ H _ R (p.bind.imp fun o c1 F1 μ1 H1 l1 R1 p1 v1 r1 => by
  unfold gPart at p1
  split at p1
  · cases r1 with | d r => cases r; exact ⟨_, rfl, p1 F1 μ1 H1 (Le.refl _ _) R1⟩
  · exact p1.elim)⟩
def cutL {α : Type} (xs : List α) (lo hi : Option Int) : List α := (xs.drop (HT.sIx xs.length 0 lo)).take (HT.sIx xs.length xs.length hi - HT.sIx xs.length 0 lo)
theorem reps_cut {K : PySem.W.Frag} {F : Hp} {μ : List Addr} {vs : List V} {ds : List D} (r : Reps K F μ vs ds) (lo hi : Option Int) : Reps K F μ (cutV vs lo hi) (cutL ds lo hi) := by
  unfold cutV cutL
  rw [r.length]
  exact (r.drop _).take _
def dSlL (da : M O) (dl du : M (Option Int)) : M (List D) := M.bind da fun o => M.bind dl fun lo => M.bind du fun hi c => match rdlD c o with
  | some ds => .ok (cutL ds lo hi) c
  | none => .no
theorem en_slice {K : PySem.W.Frag} {lo hi : Option Expr} {tl th : TO} {dl du : M (Option Int)} {p2 : Pos} (h : ED X W a ta da) (hl : OD X W lo tl dl) (hu : OD X W hi th du) (hK : X.K = K := by rfl) : EN X W (.Subscript a (.Slice lo hi none p2) pos) (tSl (rSlL K) ta tl th) (dSlL da dl du) := by
  subst hK
  exact ⟨pe_slice sl_list h.pe hl.po hu.po, fun Z F μ c σ H Q R p => h.ev Z F μ c σ H _ R (p.bind.imp fun o c1 F1 μ1 H1 l1 R1 p1 v1 r1 => hl.ev Z F1 μ1 c1 σ H1 _ R1 (p1.bind.imp fun l c2 F2 μ2 H2 l2 R2 p2 => hu.ev Z F2 μ2 c2 σ H2 _ R2 (p2.bind.imp fun u c3 F3 μ3 H3 l3 R3 p3 => by
    split at p3
    · next ds hs =>
      obtain ⟨l, vs, rfl, h1, q1⟩ := rdl_at R3 ((r1.mono l2).mono l3) hs
      refine ⟨l, vs, rfl, h1, fun q hq => ?_⟩
      exact p3 F3 μ3 _ (Le.refl _ _) (R3.up (same_new hq)) q _ upd_same (R3.nob hq) (reps_cut q1 _ _)
    · exact p3.elim)))⟩
def dRev (da : M O) : M (List D) := M.bind da fun o c => match rdlD c o with
  | some ds => .ok ds.reverse c
  | none => .no
theorem reps_rev {K : PySem.W.Frag} {F : Hp} {μ : List Addr} : ∀ {vs : List V} {ds : List D}, Reps K F μ vs ds → Reps K F μ vs.reverse ds.reverse
  | _, _, .nil => .nil
  | _, _, .cons h r => by
    rw [List.reverse_cons, List.reverse_cons]
    exact (reps_rev r).snoc h
theorem en_rev {K : PySem.W.Frag} {k : Nat} {p1 p2 p3 : Pos} (h : ED X W a ta da) (hK : X.K = K := by rfl) : EN X W (.Subscript a (.Slice none none (some (.UnaryOp .USub (.Constant (.int 1) k p1) p2)) p3) pos) (tRevL K ta) (dRev da) := by
  subst hK
  exact ⟨pe_revL h.pe, fun Z F μ c σ H Q R p => h.ev Z F μ c σ H _ R (p.bind.imp fun o c1 F1 μ1 H1 l1 R1 p1 v1 r1 => by
    split at p1
    · next ds hs =>
      obtain ⟨l, vs, rfl, h1, q1⟩ := rdl_at R1 r1 hs
      refine ⟨l, vs, rfl, h1, fun q hq => ?_⟩
      exact p1 F1 μ1 _ (Le.refl _ _) (R1.up (same_new hq)) q _ upd_same (R1.nob hq) (reps_rev q1)
    · exact p1.elim)⟩

/-! ### lists that are changed -/
def mutD (c : Stt) : O → Option (List D)
  | .d (.loc n) => match c.S[n]? with
    | some (.lst ds) => some ds
    | _ => none
  | .sl i => match c.r[i]? with
    | some (.own (.lst ds)) => some ds
    | _ => none
  | _ => none
def putL (o : O) (ds : List D) (c : Stt) : Stt := match o with
  | .d (.loc n) => ⟨c.r, c.S.set n (.lst ds)⟩
  | .sl i => ⟨c.r.set i (.own (.lst ds)), c.S⟩
  | _ => c
theorem mut_at {K : PySem.W.Frag} {Z F : Hp} {μ : List Addr} {c : Stt} {σ : St} {H : Hp} {v : V} {o : O} {ds : List D} (h : Rel K Z F μ c σ H) (r : RepO K F μ σ v o) (e : mutD c o = some ds) :
    ∃ a vs, v = .ref a ∧ H a = some (.lst vs) ∧ Reps K F μ vs ds ∧ ∀ ws es, Reps K F μ ws es → Rel K Z F μ (putL o es c) σ (upd H a (.lst ws)) := by
  unfold mutD at e
  split at e
  · next n =>
    split at e
    · next es hs =>
      cases e
      cases r with
      | d r =>
        cases r with
        | loc hn =>
          obtain ⟨_, _, ⟨u, e1, e2⟩, _⟩ := h.sto _ _ _ hn hs
          cases e2 with
          | lst r => exact ⟨_, _, rfl, e1, r, fun ws es rs => h.put hs trivial hn (.lst rs)⟩
    · cases e
  · next i =>
    split at e
    · next es hs =>
      cases e
      cases r with
      | sl r =>
        obtain ⟨a, e1, ⟨_, _, ⟨u, e2, e3⟩, _⟩, _⟩ := h.own i _ hs
        rw [r] at e1; cases e1
        cases e3 with
        | lst rs => exact ⟨_, _, rfl, e2, rs, fun ws es rs => h.write hs r (.lst rs) trivial⟩
    · cases e
  · cases e
/-- o.append(e) -/
def dApp (da : M O) (de : M D) : M D := M.bind da fun o c => match mutD c o with
  | some _ => M.bind de (fun x c => match mutD c o with
      | some ds => if ds.length < 1000000 then .ok (.v .non) (putL o (ds ++ [x]) c) else .no
      | none => .no) c
  | none => .no
theorem lt6 {n : Nat} (h : n < 1000000) : n < sizeLine := Nat.lt_of_lt_of_le h (by decide)
theorem dd_append {K : PySem.W.Frag} {te : TE} {de : M D} {apos : Pos} (ho : ED X W a ta da) (he : DD X W b te de)
    (hbase : attributeBase a "append" X.env (eval a X.env) = eval a X.env := by rfl)
    (hfew : ((backTo pos (starEach [b] X.env)).all (fun x => !x.1) && (backToKw pos (keywordEach [] X.env)).all (fun x => x.1.isSome)
      && decide (([b] : List Expr).length + ([] : List Keyword).length + (if ([] : List Keyword).isEmpty then 0 else 1) < 30)) = true := by rfl)
    (hline : (apos.endLine == pos.line) = true := by rfl) (hs : starEach [b] X.env = (false, eval b X.env) :: starEach [] X.env := by rfl) (hplain : (backTo pos (starEach [] X.env)).any (·.1) = false := by rfl)
    (hs2 : starEach [b] X.env = (false, eval b X.env) :: starEach [] X.env := by rfl) (hK : X.K = K := by rfl) :
    DD X W (.Call (.Attribute a "append" apos) [b] [] pos) (tBM K "list" rAppend ta (tCons te tNil)) (dApp da de) := by
  subst hK
  exact ⟨pe_bm PySem.F.plainAttrs_list PySem.F.slot_list_append PySem.F.type_list_append mt_append ho.pe (pa_cons he.pe pa_nil hs2) hbase hfew hline hs hplain, fun Z F μ c σ H Q R p => ho.ev Z F μ c σ H _ R (p.bind.imp fun o c1 F1 μ1 H1 l1 R1 p1 v1 r1 => by
    split at p1
    · next ds0 hs0 =>
      obtain ⟨a0, vs0, rfl, h0, _, _⟩ := mut_at R1 r1 hs0
      refine ⟨.inl ⟨rfl, _, .of h0⟩, he.ev Z F1 μ1 c1 σ H1 _ R1 (p1.bind.imp fun x c2 F2 μ2 H2 l2 R2 p2 v2 r2 => ?_)⟩
      split at p2
      · next ds hs =>
        split at p2
        · next hz =>
          obtain ⟨a2, vs2, e2, h2, rs, k⟩ := mut_at R2 (r1.mono l2) hs
          cases e2
          exact ⟨_, vs2, v2, rfl, rfl, h2, lt6 (by rw [rs.length]; exact hz), p2 F2 μ2 _ (Le.refl _ _) (k _ _ (rs.snoc r2)) _ (.v _)⟩
        · exact p2.elim
      · exact p2.elim
    · exact p1.elim)⟩

/-! ### isinstance, by built-in classes -/
def tagD : D → Option String
  | .v .non => some "NoneType"
  | .v (.bl _) => some "bool"
  | .v (.int _) => some "int"
  | .v (.str _) => some "str"
  | .tup _ => some "tuple"
  | .lst _ => some "list"
  | .dct _ => some "dict"
  | _ => none
def isiT (t c : String) : Option Bool :=
  if ["NoneType", "bool", "int", "str", "tuple", "list", "dict"].contains t && ["bool", "int", "str", "tuple", "list", "dict"].contains c then some (t == c || (t == "bool" && c == "int")) else none
theorem isi_kit {K : PySem.W.Frag} {t c : String} {b : Bool} (h : isiT t c = some b) : PySem.W.kitOne K (.type t) (.type c) = some b := by
  unfold isiT at h
  split at h
  · next hh =>
    rw [Bool.and_eq_true] at hh
    have h1 : t = "NoneType" ∨ t = "bool" ∨ t = "int" ∨ t = "str" ∨ t = "tuple" ∨ t = "list" ∨ t = "dict" := by simpa using hh.1
    have h2 : c = "bool" ∨ c = "int" ∨ c = "str" ∨ c = "tuple" ∨ c = "list" ∨ c = "dict" := by simpa using hh.2
    apply kit_ty
    rw [← h]
    rcases h1 with rfl | rfl | rfl | rfl | rfl | rfl | rfl <;> rcases h2 with rfl | rfl | rfl | rfl | rfl | rfl <;> decide +kernel
  · cases h
theorem ty_of {K : PySem.W.Frag} {F H : Hp} {μ : List Addr} {v : V} {d : D} {t : String} (ex : Same F H) (r : Rep K F μ v d) (e : tagD d = some t) : TyX K H v (.type t) := by
  cases r with
  | v => cases v <;> cases e <;> exact .base (by constructor)
  | tup hq rs =>
    cases e
    rcases hq with (h | ⟨o, h⟩) | ⟨o, its, n, hk, hc, _⟩
    · exact .base (.tup (ex _ _ h))
    · exact .fTuple (ex _ _ h)
    · exact .kTuple hk hc
  | lst hq rs => cases e; exact .base (.lst (ex _ _ hq))
  | dct hq _ _ => cases e; exact .base (.dK (ex _ _ hq))
  | _ => cases e
def gIsi (cl : String) : D → M D := fun x c => match (tagD x).bind fun t => isiT t cl with
  | some b => .ok (.v (.bl b)) c
  | none => .no
theorem dd_isi {K : PySem.W.Frag} {x : Str} {cl : String} {p q : Pos} {dx : M D} (hg : Gl X "isinstance") (hm : X.mg "isinstance" = none) (hv : bootBuiltins "isinstance" = some (.builtin "isinstance")) (ha : DD X W a ta dx) (hg2 : Gl X x) (hm2 : X.mg x = none) (hv2 : bootBuiltins x = some (.type cl))
    (hs : starEach [a, .Name x q] X.env = (false, eval a X.env) :: starEach [.Name x q] X.env := by rfl) (hs2 : starEach [.Name x q] X.env = (false, eval (.Name x q) X.env) :: starEach [] X.env := by rfl) (hn : x ≠ "__name__" := by decide) (hdb : (x == ("__debug__" : Str)) = false := by decide)
    (he : starEach [a, .Name x q] X.env = (false, eval a X.env) :: starEach [.Name x q] X.env := by rfl) (hpl : (backTo pos (starEach [.Name x q] X.env)).any (·.1) = false := by rfl) (hK : X.K = K := by rfl) :
    DD X W (.Call (.Name "isinstance" p) [a, .Name x q] [] pos) (tCB (rIsi K) (tCons ta (tCons (tC (.ty cl)) tNil))) (M.bind dx (gIsi cl)) := by
  subst hK
  exact ⟨pe_callB call_isi hg hm hv (pa_cons ha.pe (pa_cons (pe_bltn hg2 hm2 hv2 rfl hn hdb) pa_nil hs2) hs) (by decide) (by decide) he hpl, fun Z F μ c σ H Q R p => ha.ev Z F μ c σ H _ R (p.bind.imp fun x c1 F1 μ1 H1 l1 R1 p1 v1 r1 => by
    unfold gIsi at p1
    split at p1
    · next b hb =>
      cases ht : tagD x with
      | none => rw [ht] at hb; cases hb
      | some t =>
        rw [ht] at hb
        exact ⟨v1, .ty cl, .type t, .type cl, b, rfl, .ty cl, ty_of R1.ex r1 ht, isi_kit hb, p1 F1 μ1 H1 (Le.refl _ _) R1 _ (.v _)⟩
    · exact p1.elim)⟩
end

/-! ### the defs of a text -/
/-- where a def stands -/
def Has (K : PySem.W.Frag) (mg : Str → Option Value) (x qual : Str) (st : Stmt) (ps : List Str) : Prop := ∃ f fd, Fun K x qual st f fd ∧ mg x = some (.ref f) ∧ ∀ us : List Value, us.length = ps.length → bindArgs fd ⟨us, []⟩ = pure (ps.zip us)
/-- a def of that name computes g -/
def Okf (P : Program) (w : World) (K : PySem.W.Frag) (mg : Str → Option Value) (base : Heap) (k : Nat) (x : Str) (ps : List Str) (g : G) : Prop :=
  ∃ f fd, FnOk P w K mg base (L2.CX P w) k f fd ps (spG K g) ∧ mg x = some (.ref f) ∧ PySem.W.keepIn K (.ref f) = true ∧ ∀ us : List Value, us.length = ps.length → bindArgs fd ⟨us, []⟩ = pure (ps.zip us)
section
variable {X : Cx} {W : WX} {a : Expr} {es : List Expr} {pos : Pos} {tr : TA} {dr : M (List D)}
theorem dd_fn {K : PySem.W.Frag} {k : Nat} {ps : List Str} {g : G} {x : Str} {p : Pos} (h : Okf X.prog X.w X.K X.mg X.base k x ps g) (hr : Room k X.A) (hg : Gl X x) (hx : Pol X W) (ha : AD X W (a :: es) tr dr)
    (hdb : (x == ("__debug__" : Str)) = false := by decide) (he : starEach (a :: es) X.env = (false, eval a X.env) :: starEach es X.env := by rfl) (hpl : (backTo pos (starEach es X.env)).any (·.1) = false := by rfl) (hK : X.K = K := by rfl) :
    DD X W (.Call (.Name x p) (a :: es) [] pos) (tCallS (spG K g) (WE W) tr) (dCall g dr) := by
  subst hK
  obtain ⟨f, fd, F, hm, hk, hb⟩ := h
  exact dd_call F hr hg hm hk (.all hb) hx ha hdb he hpl
end
theorem ok_has {P : Program} {w : World} {K : PySem.W.Frag} {mg : Str → Option Value} {base : Heap} {x qual : Str} {st : Stmt} {N ps : List Str} {j k : Nat} {b : M Fl} (h : Has K mg x qual st ps) (S : FnScope N ps (defScope st)) (hk : ps.length = k) (hN : k ≤ N.length)
    (body : ∀ (f : Addr) (cdv : Value) (A : Around) (outer : List Env) (s : Shared) (H : Hp) (E : XK), Room j (A.deeper (PyProof.Rows.envOfC qual (defScope st) s.heap.objs.size f cdv)) →
      ∃ t, BD (cxOf (L2.CX P w) P w K mg base N qual (defScope st) f cdv A outer s H E) (fun cls d _ H => E cls d H) (defBody st) t b) : Okf P w K mg base (j + 1) x ps (runD N.length k b) := by
  obtain ⟨f, fd, F, hm, hb⟩ := h
  exact ⟨f, fd, fn_ok F S hk hN (body f), hm, F.kp, hb⟩
theorem Okf.by {P : Program} {w : World} {K : PySem.W.Frag} {mg : Str → Option Value} {base : Heap} {k : Nat} {x : Str} {ps : List Str} {g g' : G} (h : Okf P w K mg base k x ps g) (e : ∀ ds S, g' ds S ≠ .no → g ds S = g' ds S) : Okf P w K mg base k x ps g' := by
  obtain ⟨f, fd, F, hm, hk, hb⟩ := h
  exact ⟨f, fd, FnOk.by F e, hm, hk, hb⟩
end My

set_option Elab.async false
set_option linter.all false
set_option maxRecDepth 100000
set_option maxHeartbeats 4000000
/-! F8: the end of a law. -/
namespace My
open PySem L2
theorem has_of {K : PySem.W.Frag} {h : Heap} {mg : Str → Option Value} {f : Addr} {x qual : Str} {st : Stmt} {ps : List Str} {od an : Option Addr} {sl : Array (Option Value)} {oc kV dc pm cd ct : Value} (X : K.In h) (G : h.Ns mainGlobals mg)
    (b : ∀ (kV doc pm : Value) (an : Option Addr) (cdv ct : Value) (us : List Value), us.length = ps.length → bindArgs (PySem.W.fnOf x qual (defArgs st) (defBody st) (defScope st) .none kV doc pm an cdv ct) ⟨us, []⟩ = pure (ps.zip us))
    (a : PySem.W.nsIn K mainGlobals x = some (some (.ref f))) (l : K.lookup f = some ⟨oc, od, .func (PySem.W.fnOf x qual (defArgs st) (defBody st) (defScope st) .none kV dc pm an cd ct), sl⟩) (c : PySem.W.codeIn K cd qual = true) (k : PySem.W.keepIn K (.ref f) = true) : Has K mg x qual st ps :=
  let F := fun_mk (st := st) l c k
  ⟨f, _, F, PySem.W.mg_of X G a, b kV dc pm an cd ct⟩
def scr (ns : List Int) : D := .scr (ns.map fun n => .v (.int n))
theorem reps_ints {K : PySem.W.Frag} {F : Hp} {μ : List Addr} : ∀ ns : List Int, Reps K F μ (ns.map V.int) (ns.map fun n => .v (.int n))
  | [] => .nil
  | n :: ns => .cons (.v _) (reps_ints ns)
theorem law_end {K : PySem.W.Frag} {H : Hp} {a : Addr} {ns : List Int} {g : G} {S : List Cell} {E : XK} (hS : SqL K H a (ns.map V.int)) (h : g [scr ns] [] = .ok (.v (.bl true)) S) : spG K g [.ref a] H (fun v _ => v = .bl true) E := by
  refine ⟨fun _ => none, H, [], [], [scr ns], ?_, .cons (.scr hS (reps_ints ns)) .nil, ?_⟩
  · exact { ex := Same.refl H, exz := fun _ _ e => (by cases e), fz := fun _ _ e => (by cases e), len := rfl, slot := fun i x e => (by simp at e), own := fun i x e => (by simp at e), dis := fun i j a m m' e => (by simp at e), lm := rfl, sto := fun n a m e => (by simp at e), dst := fun i n a m e => (by simp at e), ndm := fun n k a e => (by simp at e) }
  · rw [h]
    intro v F' μ' H' _ _ r
    cases r
    rfl
theorem cx_end (P : Program) (w : World) (H : Hp) (s : Shared) (e : Value) (s' : Shared) : L2.CX P w [] H s (fun _ _ _ => False) e s' → False := fun h => by
  obtain ⟨_, _, _, _, _, _, _, _, _, _, _, _, z⟩ := h
  exact z
/-- the law's def, as the end wants it -/
theorem law_ok {P : Program} {w : World} {K : PySem.W.Frag} {mg : Str → Option Value} {fa : Addr} {x p : Str} {k : Nat} {g : G} (hfa : mg x = some (.ref fa)) (d : ∃ f fd, mg x = some (.ref f) ∧ (∀ us : List Value, us.length = 1 → bindArgs fd ⟨us, []⟩ = pure ([p].zip us)) ∧ ∀ base : Heap, K.In base → base.Ns mainGlobals mg → FnOk P w K mg base (L2.CX P w) k f fd [p] (spG K g)) :
    ∃ fd : FuncData, (∀ (s : Shared) (v : Value), BindsTo s fd ⟨[v], []⟩ [(p, v)]) ∧ ∀ base : Heap, K.In base → base.Ns mainGlobals mg → FnOk P w K mg base (L2.CX P w) k fa fd [p] (spG K g) := by
  obtain ⟨f, fd, h1, h2, h3⟩ := d
  have e := hfa.symm.trans h1
  cases e
  exact ⟨fd, fun s v => .of_eq (h2 [v] rfl), h3⟩
end My

set_option Elab.async false
set_option linter.all false
set_option maxRecDepth 100000
set_option maxHeartbeats 4000000
/-! F9: reckoning with images: loops, comprehensions, sizes. -/
namespace My
open PySem L2

/-! ### sizes -/
theorem mulOk_l {i j : Int} (h : i.natAbs < 2 ^ 64) : mulOk i j := .inl (.inl (by omega))
theorem mulOk_r {i j : Int} (h : j.natAbs < 2 ^ 64) : mulOk i j := .inl (.inr (by omega))
theorem log2_lt {n k : Nat} (hk : 0 < k) (h : n < 2 ^ k) : n.log2 < k := PySem.Flt.log2_lt_of hk h
theorem mulOk_b {i j : Int} {a b : Nat} (ha : i.natAbs < 2 ^ a) (hb : j.natAbs < 2 ^ b) (h0 : 0 < a) (h1 : 0 < b) (h : a + b ≤ 1000000) : mulOk i j := .inr (wide_mul ha hb h0 h1 h)
theorem divOk_b {j : Int} {b : Nat} (h : j ≠ 0) (hb : j.natAbs < 2 ^ b) (h0 : 0 < b) (h9 : b ≤ 9000) : divOk j := ⟨h, Nat.lt_of_lt_of_le (log2_lt h0 hb) h9⟩
theorem divOk_s {j : Int} (h : j ≠ 0) (hb : j.natAbs < 2 ^ 64) : divOk j := divOk_b h hb (by decide) (by decide)

/-! ### for -/
section
variable {dg : D → M Unit} {db : M Fl}
/-- one turn after another, with something that stays -/
theorem itF_inv {Inv : Nat → Stt → Prop} : ∀ (ds : List D) (i : Nat) (c : Stt), Inv i c → (∀ (j : Nat) (d : D) (c : Stt), ds[j]? = some d → Inv (i + j) c → ∃ c1, dg d c = .ok () c1 ∧ ∃ f c2, db c1 = .ok f c2 ∧ (f = .nx ∨ f = .ct) ∧ Inv (i + j + 1) c2) →
    ∃ c', itF dg db ds c = .ok .nx c' ∧ Inv (i + ds.length) c'
  | [], i, c, h, _ => ⟨c, rfl, h⟩
  | d :: r, i, c, h, t => by
    obtain ⟨c1, e1, f, c2, e2, hf, h2⟩ := t 0 d c rfl h
    obtain ⟨c', e3, h3⟩ := itF_inv r (i + 1) c2 h2 fun j d' c' q hc => by
      have := t (j + 1) d' c' (by simpa using q) (by rw [← Nat.add_assoc, Nat.add_right_comm]; exact hc)
      simpa [Nat.add_assoc, Nat.add_comm, Nat.add_left_comm] using this
    refine ⟨c', ?_, by simpa [Nat.add_assoc, Nat.add_comm, Nat.add_left_comm] using h3⟩
    unfold itF M.bind M.ne
    rw [e1]
    dsimp only
    rw [e2]
    rcases hf with rfl | rfl <;> exact e3
/-- a fold -/
theorem itF_fold {α : Type} {enc : α → Stt} {step : α → D → α} : ∀ (ds : List D) (s : α), (∀ (s : α) (d : D), d ∈ ds → ∃ c1, dg d (enc s) = .ok () c1 ∧ ∃ f, db c1 = .ok f (enc (step s d)) ∧ (f = .nx ∨ f = .ct)) → itF dg db ds (enc s) = .ok .nx (enc (ds.foldl step s))
  | [], s, _ => rfl
  | d :: r, s, t => by
    obtain ⟨c1, e1, f, e2, hf⟩ := t s d List.mem_cons_self
    have e3 := itF_fold r (step s d) fun s d' h => t s d' (List.mem_cons_of_mem _ h)
    unfold itF M.bind M.ne
    rw [e1]
    dsimp only
    rw [e2]
    rcases hf with rfl | rfl <;> exact e3
end
theorem itF_nil {dg : D → M Unit} {db : M Fl} {c : Stt} : itF dg db [] c = .ok .nx c := rfl
theorem itF_cons {dg : D → M Unit} {db : M Fl} {d : D} {r : List D} {c c1 : Stt} (h : dg d c = .ok () c1) : itF dg db (d :: r) c = M.bind db (fun f => match f with
    | .nx => itF dg db r
    | .ct => itF dg db r
    | .bk => M.pure .nx
    | .rt x => M.pure (.rt x)) c1 := by
  show M.bind (M.ne (dg d)) _ c = _
  have e : M.ne (dg d) c = .ok () c1 := by
    unfold M.ne
    rw [h]
  conv => lhs; unfold M.bind
  rw [e]
  rfl
/-- a row that is searched: the first one that returns -/
theorem itF_ret {dg : D → M Unit} {db : M Fl} {d : D} {r : List D} {c c1 c2 : Stt} {x : D} (h : dg d c = .ok () c1) (h2 : db c1 = .ok (.rt x) c2) : itF dg db (d :: r) c = .ok (.rt x) c2 := by
  rw [itF_cons h]
  unfold M.bind
  rw [h2]
  rfl
theorem itF_next {dg : D → M Unit} {db : M Fl} {d : D} {r : List D} {c c1 c2 : Stt} (h : dg d c = .ok () c1) (h2 : db c1 = .ok .nx c2) : itF dg db (d :: r) c = itF dg db r c2 := by
  rw [itF_cons h]
  unfold M.bind
  rw [h2]
/-! ### comprehensions -/
theorem itL_map {dg : D → M Unit} {dt : M Bool} {de : M D} {vs : List Nat} {r0 : List Slot} {w : List Slot} {S : List Cell} {p : D → Bool} {f : D → D} : ∀ (ds acc : List D) (c : Stt), wipeD c.r vs = w → c.S = S → acc.length + ds.length ≤ 1000000 →
    (∀ d ∈ ds, ∃ c1, dg d ⟨w, S⟩ = .ok () c1 ∧ ∃ c2, dt c1 = .ok (p d) c2 ∧ wipeD c2.r vs = w ∧ c2.S = S ∧ (p d = true → ∃ c3, de c2 = .ok (f d) c3 ∧ wipeD c3.r vs = w ∧ c3.S = S)) →
    itL dg dt de vs r0 ds acc c = .ok (acc ++ (ds.filter p).map f) ⟨w, S⟩
  | [], acc, c, hw, hS, _, _ => by
    unfold itL
    rw [hw, hS]
    simp
  | d :: r, acc, c, hw, hS, hz, t => by
    obtain ⟨c1, e1, c2, e2, w2, s2, k⟩ := t d List.mem_cons_self
    unfold itL M.bind M.ne
    rw [hw, hS, e1]
    dsimp only
    rw [e2]
    dsimp only
    have hz' : acc.length < 1000000 := by simp at hz; omega
    cases q : p d with
    | false =>
      rw [if_neg Bool.false_ne_true]
      rw [itL_map r acc c2 w2 s2 (by simp at hz ⊢; omega) fun d' h => t d' (List.mem_cons_of_mem _ h)]
      rw [List.filter_cons, q]
      rfl
    | true =>
      obtain ⟨c3, e3, w3, s3⟩ := k q
      rw [if_pos rfl, e3]
      dsimp only
      rw [if_pos hz']
      rw [itL_map r (acc ++ [f d]) c3 w3 s3 (by simp at hz ⊢; omega) fun d' h => t d' (List.mem_cons_of_mem _ h)]
      rw [List.filter_cons, q]
      simp
theorem dLc_map {di : M (List D)} {dg : D → M Unit} {dt : M Bool} {de : M D} {vs : List Nat} {c c0 : Stt} {ds : List D} (p : D → Bool) (f : D → D) (hi : di c = .ok ds c0) (hz : ds.length ≤ 1000000)
    (t : ∀ d ∈ ds, ∃ c1, dg d ⟨wipeD c0.r vs, c0.S⟩ = .ok () c1 ∧ ∃ c2, dt c1 = .ok (p d) c2 ∧ wipeD c2.r vs = wipeD c0.r vs ∧ c2.S = c0.S ∧ (p d = true → ∃ c3, de c2 = .ok (f d) c3 ∧ wipeD c3.r vs = wipeD c0.r vs ∧ c3.S = c0.S)) :
    dLc di dg dt de vs c = .ok ((ds.filter p).map f) ⟨backD c0.r (wipeD c0.r vs) vs, c0.S⟩ := by
  unfold dLc M.bind
  rw [hi]
  dsimp only
  rw [itL_map (p := p) (f := f) ds [] c0 rfl rfl (by simpa using hz) t]
  simp
/-! ### while -/
theorem dWhile_inv {dc : M Bool} {db : M Fl} {Inv : Nat → Stt → Prop} {Done : Stt → Prop} (t : ∀ (m : Nat) (c : Stt), Inv m c → ∃ k c1, dc c = .ok k c1 ∧ (k = false → Done c1) ∧ (k = true → ∃ f c2, db c1 = .ok f c2 ∧ (((f = .nx ∨ f = .ct) ∧ ∃ m', m' < m ∧ Inv m' c2) ∨ (f = .bk ∧ Done c2)))) :
    ∀ (m : Nat) (c : Stt), Inv m c → ∃ c', dWhile dc db c = .ok .nx c' ∧ Done c' := by
  intro m
  induction m using Nat.strongRecOn with
  | _ m ih =>
    intro c h
    obtain ⟨k, c1, e1, h1, h2⟩ := t m c h
    rw [dWhile_eq]
    unfold M.bind
    rw [e1]
    dsimp only
    cases k with
    | false => exact ⟨c1, rfl, h1 rfl⟩
    | true =>
      obtain ⟨f, c2, e2, h3⟩ := h2 rfl
      rw [if_pos rfl, e2]
      rcases h3 with ⟨hf, m', hm, h3⟩ | ⟨hf, h3⟩
      · obtain ⟨c', e3, h4⟩ := ih m' hm c2 h3
        rcases hf with rfl | rfl <;> exact ⟨c', e3, h4⟩
      · subst hf
        exact ⟨c2, rfl, h3⟩
end My

set_option Elab.async false
set_option linter.all false
set_option maxRecDepth 100000
set_option maxHeartbeats 4000000
/-! F10: reckoning with images: ==, rows of numbers, texts of numbers. -/
namespace My
open PySem L2

theorem gEq_of {neg k : Bool} {a b : O} {c : Stt} {p q : PyData} (h1 : pyO c a = some p) (h2 : pyO c b = some q) (hz : p.depth ≤ 64) (e : PyData.eqv p q = k) : gEq neg a b c = .ok (.v (.bl (if neg then !k else k))) c := by
  unfold gEq
  rw [h1, h2]
  dsimp only
  rw [if_pos hz, e]
theorem gEq_datum {α : Type} [DecidableEq α] [PySem.W.Datum α] {neg : Bool} {a b : O} {c : Stt} (x y : α) (h1 : pyO c a = some (PySem.W.Datum.toD x)) (h2 : pyO c b = some (PySem.W.Datum.toD y)) (hz : PySem.W.Datum.depth α ≤ 64 := by decide) :
    gEq neg a b c = .ok (.v (.bl (if neg then !decide (x = y) else decide (x = y)))) c := gEq_of h1 h2 (Nat.le_trans (PySem.W.Datum.depth_le x) hz) (PySem.W.Datum.eqv x y)
theorem gEq_int {neg : Bool} {i j : Int} {c : Stt} : gEq neg (.d (.v (.int i))) (.d (.v (.int j))) c = .ok (.v (.bl (if neg then !decide (i = j) else decide (i = j)))) c := gEq_datum i j rfl rfl
theorem gEq_str {neg : Bool} {i j : Str} {c : Stt} : gEq neg (.d (.v (.str i))) (.d (.v (.str j))) c = .ok (.v (.bl (if neg then !decide (i = j) else decide (i = j)))) c := gEq_datum i j rfl rfl
theorem gEq_bl {neg : Bool} {i j : Bool} {c : Stt} : gEq neg (.d (.v (.bl i))) (.d (.v (.bl j))) c = .ok (.v (.bl (if neg then !decide (i = j) else decide (i = j)))) c := gEq_datum i j rfl rfl
theorem gEq_non {neg : Bool} {c : Stt} : gEq neg (.d (.v .non)) (.d (.v .non)) c = .ok (.v (.bl (!neg))) c := by
  rw [gEq_of (k := true) (p := .none) (q := .none) rfl rfl (by decide) (by simp only [PyData.eqv])]
  cases neg <;> rfl
/-! ### rows of whole numbers -/
abbrev I (n : Int) : D := .v (.int n)
theorem intsD_map (ns : List Int) : intsD (ns.map I) = some ns := by
  induction ns with
  | nil => rfl
  | cons n ns ih =>
    show (intsD (ns.map I)).map (n :: ·) = _
    rw [ih]
    rfl
theorem intsD_eq : ∀ {ds : List D} {ns : List Int}, intsD ds = some ns → ds = ns.map I
  | [], ns, e => by unfold intsD at e; cases e; rfl
  | .v x :: ds, ns, e => by
    cases x with
    | int i =>
      unfold intsD at e
      cases q : intsD ds with
      | none => rw [q] at e; cases e
      | some ms => rw [q] at e; cases e; rw [intsD_eq q]; rfl
    | _ => unfold intsD at e; cases e
  | .tup _ :: _, _, e => by unfold intsD at e; cases e
  | .lst _ :: _, _, e => by unfold intsD at e; cases e
  | .scr _ :: _, _, e => by unfold intsD at e; cases e
  | .dct _ :: _, _, e => by unfold intsD at e; cases e
  | .ins _ _ :: _, _, e => by unfold intsD at e; cases e
  | .loc _ :: _, _, e => by unfold intsD at e; cases e
theorem intsD_len {ds : List D} {ns : List Int} (h : intsD ds = some ns) : ds.length = ns.length := by
  rw [intsD_eq h, List.length_map]
theorem atI_map {α β : Type} {f : α → β} {xs : List α} {i : Int} {d : α} (h0 : 0 ≤ i) (h1 : i < xs.length) : atI (xs.map f) i = some (f (xs.getD i.toNat d)) := by
  obtain ⟨j, rfl⟩ : ∃ j : Nat, i = j := ⟨i.toNat, by omega⟩
  have hl : j < xs.length := by omega
  rw [atI_nat (j := j) (v := f xs[j]) (by rw [List.getElem?_map, List.getElem?_eq_getElem hl]; rfl)]
  simp [List.getD, List.getElem?_eq_getElem hl]
theorem pyDs_ints (ns : List Int) : pyDs (ns.map I) = some (ns.map PyData.int) := by
  induction ns with
  | nil => rfl
  | cons n ns ih =>
    show pyDs (I n :: ns.map I) = _
    unfold pyDs
    rw [ih]
    rfl
theorem pyO_ints {c : Stt} (ns : List Int) : pyO c (.d (.lst (ns.map I))) = some (PySem.W.Datum.toD ns) := by
  show (pyDs (ns.map I)).map PyData.list = _
  rw [pyDs_ints]
  rfl
theorem gEq_ints {neg : Bool} {ns ms : List Int} {c : Stt} : gEq neg (.d (.lst (ns.map I))) (.d (.lst (ms.map I))) c = .ok (.v (.bl (if neg then !decide (ns = ms) else decide (ns = ms)))) c := gEq_datum ns ms (pyO_ints ns) (pyO_ints ms)
/-! ### texts of numbers -/
theorem gEq_pair {neg : Bool} {a b x y : Int} {c : Stt} : gEq neg (.d (.tup [.v (.int a), .v (.int b)])) (.d (.tup [.v (.int x), .v (.int y)])) c = .ok (.v (.bl (if neg then !decide (a = x ∧ b = y) else decide (a = x ∧ b = y)))) c := by
  rw [gEq_datum (a, b) (x, y) rfl rfl]
  simp only [Prod.mk.injEq]
/-- a list behind an operand -/
def opL (r : List Slot) (i : Nat) : O := match r[i]? with
  | some (.own (.lst ds)) => .d (.lst ds)
  | some (.d (.lst ds)) => .d (.lst ds)
  | _ => .sl i
theorem pyO_opL {r : List Slot} {S : List Cell} {i : Nat} : pyO ⟨r, S⟩ (opL r i) = pyO ⟨r, S⟩ (.sl i) := by
  unfold opL
  split
  · next h =>
    conv => rhs; unfold pyO
    dsimp only
    rw [h]
    unfold pyO pyD
    rfl
  · next h =>
    conv => rhs; unfold pyO
    dsimp only
    rw [h]
    unfold pyO pyD
    rfl
  · rfl
theorem gEq_sl1 {neg : Bool} {i : Nat} {b : O} {r : List Slot} {S : List Cell} : gEq neg (.sl i) b ⟨r, S⟩ = gEq neg (opL r i) b ⟨r, S⟩ := by
  unfold gEq
  rw [pyO_opL]
theorem gEq_sl2 {neg : Bool} {i : Nat} {a : O} {r : List Slot} {S : List Cell} : gEq neg a (.sl i) ⟨r, S⟩ = gEq neg a (opL r i) ⟨r, S⟩ := by
  unfold gEq
  rw [pyO_opL]
def strZ (i : Int) : Str := Str.ofString (toString i)
theorem strZ_len {i : Int} (h : i.natAbs.log2 < 1920) : (strZ i).length ≤ 1921 := PyProof.Rows.int_text_len_1921 h
theorem str_append (a b : Str) : a ++ b = ⟨a.cps ++ b.cps⟩ := rfl
theorem str_app_len (a b : Str) : (a ++ b).length = a.length + b.length := by
  show (a.cps ++ b.cps).size = _
  rw [Array.size_append]
  rfl
theorem ofString_app (a b : String) : Str.ofString (a ++ b) = Str.ofString a ++ Str.ofString b := by
  rw [Str.ofString_eq_toList, Str.ofString_eq_toList, Str.ofString_eq_toList]
  show _ = (⟨_⟩ : Str)
  congr 1
  rw [String.toList_append, List.map_append]
  simp
theorem strZ_neg {i : Int} (h : i < 0) : strZ i = ("-" : Str) ++ strZ (-i) := by
  unfold strZ
  rw [← ofString_app]
  congr 1
  cases i with
  | ofNat n => exact absurd h (Int.not_lt.mpr (Int.natCast_nonneg n))
  | negSucc n => rfl
theorem gStr_int {i : Int} {c : Stt} (h : i.natAbs < 2 ^ 1000) : gStr1 (.d (.v (.int i))) c = .ok (.v (.str (strZ i))) c := by
  exact (if_pos (Nat.lt_of_lt_of_le (log2_lt (by decide) h) (by decide)))
theorem strZ_len1 {i : Int} (h : i.natAbs < 2 ^ 1000) : (strZ i).length ≤ 1921 := strZ_len (Nat.lt_of_lt_of_le (log2_lt (by decide) h) (by decide))
/-! ### reckoning -/
theorem fmod_bd {c m : Int} (h : 0 < m) : 0 ≤ c.fmod m ∧ c.fmod m < m := by
  rw [Int.fmod_eq_emod_of_nonneg _ (by omega)]
  exact ⟨Int.emod_nonneg _ (by omega), Int.emod_lt_of_pos _ h⟩
theorem atI_fmod {α β : Type} {f : α → β} {xs : List α} {c m : Int} {d : α} (hm : (xs.length : Int) = m) (h : 0 < m) : atI (xs.map f) (c.fmod m) = some (f (xs.getD (c.fmod m).toNat d)) :=
  atI_map (fmod_bd h).1 (by rw [hm]; exact (fmod_bd h).2)
theorem dFor_of {di : M (List D)} {dg : D → M Unit} {db : M Fl} {c c0 : Stt} {ds : List D} (h : di c = .ok ds c0) : dFor di dg db c = itF dg db ds c0 := by
  unfold dFor M.bind
  rw [h]
theorem cutL_map {α β : Type} (f : α → β) (xs : List α) (lo hi : Option Int) : cutL (xs.map f) lo hi = (cutL xs lo hi).map f := by
  unfold cutL
  rw [List.length_map, List.map_take, List.map_drop]
theorem enuD_map {α : Type} (f : α → D) (xs : List α) (d : α) : enuD (xs.map f) = (List.range xs.length).map fun k => .tup [.v (.int (k : Nat)), f (xs.getD k d)] := by
  unfold enuD
  rw [List.length_map]
  apply List.map_congr_left
  intro k hk
  have hl : k < xs.length := List.mem_range.mp hk
  simp [List.getD, List.getElem?_eq_getElem hl]
theorem pyO_own {r : List Slot} {S : List Cell} {i : Nat} {ds : List D} (h : r[i]? = some (.own (.lst ds))) : pyO ⟨r, S⟩ (.sl i) = (pyDs ds).map .list := by
  unfold pyO
  dsimp only
  rw [h]
theorem isi_NoneType_bool : isiT "NoneType" "bool" = some false := by decide +kernel
theorem isi_NoneType_int : isiT "NoneType" "int" = some false := by decide +kernel
theorem isi_NoneType_str : isiT "NoneType" "str" = some false := by decide +kernel
theorem isi_NoneType_tuple : isiT "NoneType" "tuple" = some false := by decide +kernel
theorem isi_NoneType_list : isiT "NoneType" "list" = some false := by decide +kernel
theorem isi_NoneType_dict : isiT "NoneType" "dict" = some false := by decide +kernel
theorem isi_bool_bool : isiT "bool" "bool" = some true := by decide +kernel
theorem isi_bool_int : isiT "bool" "int" = some true := by decide +kernel
theorem isi_bool_str : isiT "bool" "str" = some false := by decide +kernel
theorem isi_bool_tuple : isiT "bool" "tuple" = some false := by decide +kernel
theorem isi_bool_list : isiT "bool" "list" = some false := by decide +kernel
theorem isi_bool_dict : isiT "bool" "dict" = some false := by decide +kernel
theorem isi_int_bool : isiT "int" "bool" = some false := by decide +kernel
theorem isi_int_int : isiT "int" "int" = some true := by decide +kernel
theorem isi_int_str : isiT "int" "str" = some false := by decide +kernel
theorem isi_int_tuple : isiT "int" "tuple" = some false := by decide +kernel
theorem isi_int_list : isiT "int" "list" = some false := by decide +kernel
theorem isi_int_dict : isiT "int" "dict" = some false := by decide +kernel
theorem isi_str_bool : isiT "str" "bool" = some false := by decide +kernel
theorem isi_str_int : isiT "str" "int" = some false := by decide +kernel
theorem isi_str_str : isiT "str" "str" = some true := by decide +kernel
theorem isi_str_tuple : isiT "str" "tuple" = some false := by decide +kernel
theorem isi_str_list : isiT "str" "list" = some false := by decide +kernel
theorem isi_str_dict : isiT "str" "dict" = some false := by decide +kernel
theorem isi_tuple_bool : isiT "tuple" "bool" = some false := by decide +kernel
theorem isi_tuple_int : isiT "tuple" "int" = some false := by decide +kernel
theorem isi_tuple_str : isiT "tuple" "str" = some false := by decide +kernel
theorem isi_tuple_tuple : isiT "tuple" "tuple" = some true := by decide +kernel
theorem isi_tuple_list : isiT "tuple" "list" = some false := by decide +kernel
theorem isi_tuple_dict : isiT "tuple" "dict" = some false := by decide +kernel
theorem isi_list_bool : isiT "list" "bool" = some false := by decide +kernel
theorem isi_list_int : isiT "list" "int" = some false := by decide +kernel
theorem isi_list_str : isiT "list" "str" = some false := by decide +kernel
theorem isi_list_tuple : isiT "list" "tuple" = some false := by decide +kernel
theorem isi_list_list : isiT "list" "list" = some true := by decide +kernel
theorem isi_list_dict : isiT "list" "dict" = some false := by decide +kernel
theorem isi_dict_bool : isiT "dict" "bool" = some false := by decide +kernel
theorem isi_dict_int : isiT "dict" "int" = some false := by decide +kernel
theorem isi_dict_str : isiT "dict" "str" = some false := by decide +kernel
theorem isi_dict_tuple : isiT "dict" "tuple" = some false := by decide +kernel
theorem isi_dict_list : isiT "dict" "list" = some false := by decide +kernel
theorem isi_dict_dict : isiT "dict" "dict" = some true := by decide +kernel
end My

set_option Elab.async false
set_option linter.all false
set_option maxRecDepth 100000
set_option maxHeartbeats 4000000
/-! F11: lists of the store: made, changed, walked. -/
namespace My
open PySem L2
section
variable {X : Cx} {W : WX} {a b e : Expr} {t ta tb : TE} {pos : Pos} {da db : M O}
/-- a new list, put into the store -/
def dSt (dn : M (List D)) : M D := M.bind dn fun ds c => .ok (.loc c.S.length) ⟨c.r, c.S ++ [.lst ds]⟩
theorem dd_st {dn : M (List D)} (h : EN X W e t dn) : DD X W e t (dSt dn) := ⟨h.pe, fun Z F μ c σ H Q R p => h.ev Z F μ c σ H _ R (p.bind.imp fun ds c1 F1 μ1 H1 l1 R1 p1 q vs hq nb rs => by
  obtain ⟨R2, l2⟩ := R1.push (m := .lst ds) hq nb.f nb.z nb.no nb.nm (.lst (rs.mono ⟨Same.refl _, fun n x h => by
    have hn : n < μ1.length := (List.getElem?_eq_some_iff.mp h).1
    rw [List.getElem?_append_left hn]
    exact h⟩))
  refine p1 F1 _ H1 l2 R2 _ (.loc ?_)
  have : μ1.length = c1.S.length := R1.lm
  rw [← this]
  simp)⟩
/-- xs[i] = e, of a list -/
def dPut (dv : M D) (dob : M O) (di : M D) : M Fl := M.bind dv fun x => M.bind dob fun o => M.bind di fun k c => match k with
  | .v (.int i) => match mutD c o with
    | some ds => match ixN ds.length i with
      | some j => .ok .nx (putL o (ds.set j x) c)
      | none => .no
    | none => .no
  | _ => .no
theorem sd_put {o i : Expr} {to ti : TE} {pos' : Pos} {dv di : M D} {dob : M O} (hv : DD X W e t dv) (ho : ED X W o to dob) (hi : DD X W i ti di) (hs : swapsWithSole [.Subscript o i pos'] e pos.line X.env = pure false := by rfl) (hw : swappedStores [.Subscript o i pos'] e X.env = pure none := by rfl)
    (h1 : (assignEach [.Subscript o i pos'] X.env).map (·.2) = [assign (.Subscript o i pos') X.env] := by rfl) (ha : ∀ v, assign (.Subscript o i pos') X.env v = (do
      let ov ← holding [v] (eval o X.env)
      let iv ← holding [v, ov] (eval i X.env)
      standAt pos'
      holding [v, ov, iv] (setItem ov iv v)
      release [v, ov, iv] []) := by intro _; rfl) : SD X W (.Assign [.Subscript o i pos'] e pos) (tAsg t (gSub to ti rSetL)) (dPut dv dob di) :=
  ⟨ps_asg hv.pe (pg_sub ho.pe hi.pe set_list ha) hs hw h1, fun Z F μ c σ H D R p => hv.ev Z F μ c σ H _ R (p.bind.imp fun y c1 F1 μ1 H1 l1 R1 p1 v r => ho.ev Z F1 μ1 c1 σ H1 _ R1 (p1.bind.imp fun oo c2 F2 μ2 H2 l2 R2 p2 ov ro => hi.ev Z F2 μ2 c2 σ H2 _ R2 (p2.bind.imp fun k c3 F3 μ3 H3 l3 R3 p3 iv ri => by
    split at p3
    · next z =>
      split at p3
      · next ds hs =>
        split at p3
        · next j hj =>
          cases ri
          obtain ⟨l, vs, rfl, h1, rs, kk⟩ := mut_at R3 (ro.mono l3) hs
          exact ⟨l, vs, z, j, rfl, rfl, h1, by rw [rs.length]; exact hj, p3 _ F3 μ3 _ (Le.refl _ _) (kk _ _ (Reps.set ((r.mono l2).mono l3) j rs))⟩
        · exact p3.elim
      · exact p3.elim
    · exact p3.elim)))⟩
end
/-! ### walking a list of the store that stays as it is meanwhile -/
open Classical in
noncomputable def itG (n : Nat) (es : List D) (dg : D → M Unit) (db : M Fl) : List D → M Fl
  | [] => fun c => if c.S[n]? = some (.lst es) then .ok .nx c else .no
  | d :: r => fun c => if c.S[n]? = some (.lst es) then M.bind (M.ne (dg d)) (fun _ => M.bind db fun f => match f with
      | .nx => itG n es dg db r
      | .ct => itG n es dg db r
      | .bk => M.pure .nx
      | .rt x => M.pure (.rt x)) c else .no
noncomputable def dForX (dg : D → M Unit) (db : M Fl) (x : D) : M Fl := match x with
  | .loc n => fun c => match c.S[n]? with
    | some (.lst es) => itG n es dg db es c
    | _ => .no
  | x => M.bind (seqX x) fun ds => itF dg db ds
noncomputable def dForA (dd : M D) (dg : D → M Unit) (db : M Fl) : M Fl := M.bind dd (dForX dg db)
section
variable {X : Cx} {W : WX} {e : Expr} {t : TE} {pos : Pos}
theorem loc_at {K : PySem.W.Frag} {Z F : Hp} {μ : List Addr} {c : Stt} {σ : St} {H : Hp} {n : Nat} {a : Addr} {es : List D} (R : Rel K Z F μ c σ H) (h : μ[n]? = some a) (hs : c.S[n]? = some (.lst es)) : ∃ vs, H a = some (.lst vs) ∧ Reps K F μ vs es := by
  obtain ⟨_, _, ⟨u, e1, e2⟩, _⟩ := R.sto _ _ _ h hs
  cases e2 with
  | lst r => exact ⟨_, e1, r⟩
theorem sd_forA {tg iter : Expr} {body : List Stmt} {tl : TE} {vs : List Nat} {g : TG} {tb : TS} {dd : M D} {dg : D → M Unit} {db : M Fl} (hp : PassesOwn (model X.prog X.w) X.A X.env X.xe) (hc : X.calm = true) (hi : DD X W iter tl dd) (hg : GD X tg vs g dg) (hb : BD X W body tb db)
    (hs : ∀ x, foldedSetIterable iter X.env x = pure x := by intro _; rfl) : SD X W (.For tg iter body [] pos) (tFor (iAny X.K tl) g tb) (dForA dd dg db) := by
  refine ⟨ps_for hp hc (pi_any hi.pe) hg.pg hb.ps hs, fun Z F μ c σ H D R p => ?_⟩
  by_cases hl : ∃ n c1, dd c = .ok (.loc n) c1
  · obtain ⟨n, c0, e0⟩ := hl
    refine .inl (hi.ev Z F μ c σ H _ R ?_)
    unfold dForA at p
    have p1 := PostS.bind (σ := σ) p
    rw [e0] at p1 ⊢
    refine fun F1 μ1 H1 l1 R1 v rv => ?_
    cases rv with
    | @loc a _ hn =>
      have p2 := p1 F1 μ1 H1 l1 R1
      unfold dForX at p2
      dsimp only at p2
      cases hes : c0.S[n]? with
      | none => rw [hes] at p2; exact p2.elim
      | some m =>
      rw [hes] at p2
      cases m with
      | lst es =>
        dsimp only at p2
        obtain ⟨ws, hws, _⟩ := loc_at R1 hn hes
        refine ⟨_, rfl, ⟨ws, .of hws⟩, ?_⟩
        refine ⟨fun i m σ' H' => m = es.length - i ∧ i ≤ es.length ∧ ∃ F' μ' c', Le F1 μ1 F' μ' ∧ Rel X.K Z F' μ' c' σ' H' ∧ PostS X.K Z F' μ' W (itG n es dg db (es.drop i) c') D, ⟨es.length, by simp, Nat.zero_le _, F1, μ1, c0, Le.refl _ _, R1, p2⟩, ?_⟩
        rintro i m σ2 H2 ⟨rfl, hi2, F2, μ2, c2, l2, R2, p2⟩
        by_cases hg2 : c2.S[n]? = some (.lst es)
        · obtain ⟨us, hus, rs⟩ := loc_at R2 (l2.mu _ _ hn) hg2
          by_cases hlt : i < es.length
          · have hj : i < us.length := by rw [rs.length]; exact hlt
            refine .inr ⟨⟨us, us[i], .of hus, List.getElem?_eq_getElem hj⟩, fun σ' H' => ∃ F' μ' c', Le F1 μ1 F' μ' ∧ Rel X.K Z F' μ' c' σ' H' ∧ PostS X.K Z F' μ' W (itG n es dg db (es.drop (i + 1)) c') D, fun σ' H' h => ⟨_, by omega, rfl, hlt, h⟩, fun x H' y => ?_⟩
            obtain ⟨rfl, y⟩ := y
            obtain ⟨d, e1, r3⟩ := rs.getV (y us (.of hus))
            have ed : es.drop i = d :: es.drop (i + 1) := by
              rw [List.drop_eq_getElem_cons hlt]
              rw [List.getElem?_eq_getElem hlt] at e1
              rw [Option.some.inj e1]
            rw [ed] at p2
            unfold itG at p2
            rw [if_pos hg2] at p2
            unfold M.bind M.ne at p2
            cases q2 : dg d c2 with
            | no => rw [q2] at p2; exact p2.elim
            | ex _ _ => rw [q2] at p2; exact p2.elim
            | ok u c3 =>
              rw [q2] at p2
              refine hg.ev Z F2 μ2 c2 σ2 H' _ x d R2 r3 ⟨c3, q2, fun σ3 R4 _ => hb.ev Z F2 μ2 c3 σ3 H' _ R4 ?_⟩
              dsimp only at p2
              cases q3 : db c3 with
              | no => rw [q3] at p2; exact p2
              | ex _ _ => rw [q3] at p2; exact p2
              | ok f c4 =>
                rw [q3] at p2
                cases f with
                | nx => exact fun σ' F' μ' H4 l R' => ⟨F', μ', c4, l2.trans l, R', p2.le l⟩
                | ct => exact fun σ' F' μ' H4 l R' => ⟨F', μ', c4, l2.trans l, R', p2.le l⟩
                | bk => exact p2
                | rt d => exact p2
          · have e1 : es.drop i = [] := List.drop_eq_nil_of_le (by omega)
            rw [e1] at p2
            unfold itG at p2
            rw [if_pos hg2] at p2
            exact .inl ⟨⟨us, .of hus, by rw [rs.length]; omega⟩, p2 σ2 F2 μ2 H2 (Le.refl _ _) R2⟩
        · have : itG n es dg db (es.drop i) c2 = .no := by
            cases es.drop i <;> unfold itG <;> rw [if_neg hg2]
          rw [this] at p2
          exact p2.elim
      | _ => exact p2.elim
  · refine (sd_for (pos := pos) hp hc (id_any hi) hg hb hs).ev Z F μ c σ H D R ?_
    have e : dFor (M.bind dd seqX) dg db c = dForA dd dg db c := by
      unfold dFor dForA M.bind
      cases q : dd c with
      | ok x c1 =>
        cases x with
        | loc n => exact absurd ⟨n, c1, q⟩ hl
        | _ => rfl
      | _ => rfl
    rw [e]
    exact p
/-! comprehensions -/
open Classical in
noncomputable def itLG (n : Nat) (es : List D) (dg : D → M Unit) (dt : M Bool) (de : M D) (vs : List Nat) (r0 : List Slot) : List D → List D → M (List D)
  | [], acc => fun c => if c.S[n]? = some (.lst es) then .ok acc ⟨wipeD c.r vs, c.S⟩ else .no
  | d :: r, acc => fun c => if c.S[n]? = some (.lst es) then M.bind (M.ne (dg d)) (fun _ => M.bind (M.ne dt) fun k => if k = true then M.bind (M.ne de) fun y => fun c => if acc.length < 1000000 then itLG n es dg dt de vs r0 r (acc ++ [y]) c else .no
    else itLG n es dg dt de vs r0 r acc) ⟨wipeD c.r vs, c.S⟩ else .no
noncomputable def dLcX (dg : D → M Unit) (dt : M Bool) (de : M D) (vs : List Nat) (x : D) : M (List D) := match x with
  | .loc n => fun c => match c.S[n]? with
    | some (.lst es) => M.bind (itLG n es dg dt de vs c.r es []) (fun ys c' => .ok ys ⟨backD c.r c'.r vs, c'.S⟩) c
    | _ => .no
  | x => dLc (seqX x) dg dt de vs
noncomputable def dLcA (dd : M D) (dg : D → M Unit) (dt : M Bool) (de : M D) (vs : List Nat) : M (List D) := M.bind dd (dLcX dg dt de vs)
theorem en_lcA {W' : WX} {elt tg iter : Expr} {ifs : List Expr} {scope : Scope} {own : List (Str × Nat)} {tl : TE} {vs : List Nat} {g : TG} {tt : TT} {te : TE} {dd : M D} {dg : D → M Unit} {dt : M Bool} {de : M D} (hc : X.calm = true) (hN : X.N.Nodup) (hi : DD X W iter tl dd) (ok : BlkOk X.N X.env.scope scope own)
    (hg : ∀ (s : Shared) (H : Hp) (C : Addr) (cl : List (Str × Addr)) (fp : List Addr), GD (X.blk s H scope (compEnvC scope cl C X.env) fp) tg vs g dg) (ht : ∀ (s : Shared) (H : Hp) (C : Addr) (cl : List (Str × Addr)) (fp : List Addr), TsD (X.blk s H scope (compEnvC scope cl C X.env) fp) W' ifs tt dt)
    (he : ∀ (s : Shared) (H : Hp) (C : Addr) (cl : List (Str × Addr)) (fp : List Addr), DD (X.blk s H scope (compEnvC scope cl C X.env) fp) W' elt te de) (hv : ∀ j ∈ vs, j ∈ own.map (·.2) := by decide) (hs : ∀ x, foldedSetIterable iter X.env x = pure x := by intro _; rfl) :
    EN X W (.ListComp elt [⟨tg, iter, ifs, 0⟩] scope pos) (tLc (iAny X.K tl) g tt te (own.map (·.2))) (dLcA dd dg dt de (own.map (·.2))) := by
  have eg : EvG X.K vs g dg := (hg {} (fun _ => none) 0 [] []).ev
  have et : EvT X.K W' tt dt := (ht {} (fun _ => none) 0 [] []).ev
  have ee : EvD X.K W' te de := (he {} (fun _ => none) 0 [] []).ev
  refine ⟨pe_lc hc hN (pi_any hi.pe) ok (fun s H C cl fp => (hg s H C cl fp).pg) (fun s H C cl fp => (ht s H C cl fp).pt) (fun s H C cl fp => (he s H C cl fp).pe) hs, fun Z F μ c σ H Q R p => ?_⟩
  by_cases hl : ∃ n c1, dd c = .ok (.loc n) c1
  · obtain ⟨n, c1, e0⟩ := hl
    generalize own.map (·.2) = us at hv p ⊢
    refine .inl (hi.ev Z F μ c σ H _ R ?_)
    unfold dLcA at p
    have pp := Post.bind (σ := σ) p
    rw [e0] at pp ⊢
    refine fun F1 μ1 H1 l1 R1 v rv => ?_
    cases rv with
    | loc hn =>
      have p1 := pp F1 μ1 H1 l1 R1
      unfold dLcX at p1
      dsimp only at p1
      cases hes : c1.S[n]? with
      | none => rw [hes] at p1; exact p1.elim
      | some m =>
      rw [hes] at p1
      cases m with
      | lst es =>
        dsimp only at p1
        obtain ⟨ls, hls, _⟩ := loc_at R1 hn hes
        refine ⟨_, rfl, ⟨ls, .of hls⟩, ?_⟩
        intro A hA
        have nA := R1.nob hA
        have zA : Z A = none := nA.z
        refine ⟨fun i m H' => m = es.length - i ∧ i ≤ es.length ∧ ∃ F' μ' c' ws acc, Le F1 μ1 F' μ' ∧ Rel X.K (upd Z A (.lst ws)) F' μ' ⟨wipeD c'.r us, c'.S⟩ (wipe σ us) H' ∧ Reps X.K F' μ' ws acc ∧ acc.length ≤ 1000000 ∧
            Post X.K Z F' μ' σ W (M.bind (itLG n es dg dt de us c1.r (es.drop i) acc) (fun ys c' => .ok ys ⟨backD c1.r c'.r us, c'.S⟩) c') (fun ds c' F' μ' H' => ∀ p vs, H' p = some (.lst vs) → Nob Z F' μ' c' σ p → Reps X.K F' μ' vs ds → Q (.ref p) H'),
          ⟨es.length, by simp, Nat.zero_le _, F1, μ1, c1, [], [], Le.refl _ _, rel_wipe (rel_aside (R1.up (same_new hA)) upd_same nA) us, .nil, Nat.zero_le _, p1⟩, ?_⟩
        rintro i m H2 ⟨rfl, hi2, F2, μ2, c2, ws, acc, l2, R2, ra, hz, p2⟩
        by_cases hg2 : c2.S[n]? = some (.lst es)
        · obtain ⟨xs, hxs, rs⟩ := loc_at R2 (l2.mu _ _ hn) hg2
          by_cases hlt : i < es.length
          · have hj : i < xs.length := by rw [rs.length]; exact hlt
            refine .inr ⟨⟨xs, xs[i], .of hxs, List.getElem?_eq_getElem hj⟩, fun H' => ∃ F' μ' c' ws acc, Le F1 μ1 F' μ' ∧ Rel X.K (upd Z A (.lst ws)) F' μ' ⟨wipeD c'.r us, c'.S⟩ (wipe σ us) H' ∧ Reps X.K F' μ' ws acc ∧ acc.length ≤ 1000000 ∧
              Post X.K Z F' μ' σ W (M.bind (itLG n es dg dt de us c1.r (es.drop (i + 1)) acc) (fun ys c' => .ok ys ⟨backD c1.r c'.r us, c'.S⟩) c') (fun ds c' F' μ' H' => ∀ p vs, H' p = some (.lst vs) → Nob Z F' μ' c' σ p → Reps X.K F' μ' vs ds → Q (.ref p) H'),
              fun H' h => ⟨_, by omega, rfl, hlt, h⟩, fun x H' y => ?_⟩
            obtain ⟨rfl, y⟩ := y
            obtain ⟨d, e1, r3⟩ := rs.getV (y xs (.of hxs))
            have ed : es.drop i = d :: es.drop (i + 1) := by
              rw [List.drop_eq_getElem_cons hlt]
              rw [List.getElem?_eq_getElem hlt] at e1
              rw [Option.some.inj e1]
            rw [ed] at p2
            unfold itLG at p2
            unfold M.bind M.ne at p2
            dsimp only at p2
            rw [if_pos hg2] at p2
            cases q2 : dg d ⟨wipeD c2.r us, c2.S⟩ with
            | no => rw [q2] at p2; exact p2.elim
            | ex _ _ => rw [q2] at p2; exact p2.elim
            | ok u c3 =>
              rw [q2] at p2
              dsimp only at p2
              refine eg _ F2 μ2 _ (wipe σ us) H' _ x d R2 r3 ⟨c3, q2, fun σ3 R4 w3 => ?_⟩
              have ew : wipe σ3 us = wipe σ us := by
                rw [w3 us hv]
                have ww : ∀ vs : List Nat, (∀ j ∈ vs, j ∈ us) → wipe (wipe σ vs) us = wipe σ us := by
                  intro vs
                  induction vs with
                  | nil => intro _; rfl
                  | cons v vs ih =>
                    intro hh
                    show wipe ((wipe σ vs).set v none) us = wipe σ us
                    rw [wipe_set (hh v List.mem_cons_self)]
                    exact ih fun j hj => hh j (List.mem_cons_of_mem _ hj)
                exact ww us fun _ h => h
              refine ⟨ew, et _ F2 μ2 c3 σ3 H' _ R4 ?_⟩
              cases q3 : dt c3 with
              | no => rw [q3] at p2; exact p2.elim
              | ex _ _ => rw [q3] at p2; exact p2.elim
              | ok k c4 =>
                rw [q3] at p2
                dsimp only at p2
                refine fun F4 μ4 H4 l4 R5 => ?_
                replace p2 := p2.le l4
                cases k with
                | false =>
                  refine ⟨F4, μ4, c4, ws, acc, l2.trans l4, ?_, ra.mono l4, hz, p2⟩
                  have := rel_wipe R5 us
                  rw [ew] at this
                  exact this
                | true =>
                  rw [if_pos rfl] at p2
                  show te σ3 H4 _
                  refine ee _ F4 μ4 c4 σ3 H4 _ R5 ?_
                  cases q4 : de c4 with
                  | no => rw [q4] at p2; exact p2.elim
                  | ex _ _ => rw [q4] at p2; exact p2.elim
                  | ok z c5 =>
                    rw [q4] at p2
                    dsimp only at p2
                    refine fun F5 μ5 H5 l5 R6 v rv => ?_
                    replace p2 := p2.le l5
                    have ra5 := (ra.mono l4).mono l5
                    obtain ⟨_, _, hA5⟩ := aside_nob R6 zA
                    by_cases hz5 : acc.length < 1000000
                    · rw [if_pos hz5] at p2
                      have hw : ws.length < sizeLine := Nat.lt_of_lt_of_le (by rw [ra5.length]; exact hz5) (small6 (Nat.le_refl _))
                      refine ⟨ws, hA5, hw, F5, μ5, c5, ws ++ [v], acc ++ [z], (l2.trans l4).trans l5, ?_, ra5.snoc rv, by rw [List.length_append, List.length_singleton]; exact hz5, p2⟩
                      have := rel_wipe (aside_put R6 zA (o' := .lst (ws ++ [v]))) us
                      rw [ew] at this
                      exact this
                    · rw [if_neg hz5] at p2
                      exact p2.elim
          · have e1 : es.drop i = [] := List.drop_eq_nil_of_le (by omega)
            rw [e1] at p2
            unfold itLG at p2
            unfold M.bind at p2
            dsimp only at p2
            rw [if_pos hg2] at p2
            obtain ⟨R3, n3, hA3⟩ := aside_nob R2 zA
            have R4 := rel_back R1 l2 us R3
            exact .inl ⟨⟨xs, .of hxs, by rw [rs.length]; omega⟩, p2 F2 μ2 H2 (Le.refl _ _) R4 A ws hA3 ⟨n3.f, n3.z, fun j m' q e => by
              obtain ⟨a, e2, c2', _⟩ := R4.own j m' q
              rw [e] at e2; cases e2
              rcases back_get q with ⟨_, h2⟩ | ⟨h1, h2⟩
              · rcases h2 with h2 | ⟨x, h2, _⟩ <;> cases h2
              · exact n3.no j m' h2 (by rw [wipe_out h1]; exact e), n3.nm⟩ ra⟩
        · have : itLG n es dg dt de us c1.r (es.drop i) acc c2 = .no := by
            cases es.drop i <;> unfold itLG <;> rw [if_neg hg2]
          unfold M.bind at p2
          rw [this] at p2
          exact p2.elim
      | _ => exact p1.elim
  · refine (en_lc (pos := pos) hc hN (id_any hi) ok hg ht he hv hs).ev Z F μ c σ H Q R ?_
    have e : dLc (M.bind dd seqX) dg dt de (own.map (·.2)) c = dLcA dd dg dt de (own.map (·.2)) c := by
      unfold dLcA dLc M.bind
      cases q : dd c with
      | ok x c1 =>
        cases x with
        | loc n => exact absurd ⟨n, c1, q⟩ hl
        | _ => rfl
      | _ => rfl
    rw [e]
    exact p
theorem sd_setLcA {W' : WX} {i : Nat} {y : Str} {py spos : Pos} {elt tg iter : Expr} {ifs : List Expr} {scope : Scope} {own : List (Str × Nat)} {tl : TE} {vs : List Nat} {g : TG} {tt : TT} {te : TE} {dd : M D} {dg : D → M Unit} {dt : M Bool} {de : M D} (hc : X.calm = true) (hN : X.N.Nodup) (hy : X.N[i]? = some y) (hyl : X.env.scope.names.lookup y = some .local)
    (hsw : swapsWith (.ListComp elt [⟨tg, iter, ifs, 0⟩] scope pos) (some (.Name y py)) spos.line X.env = pure true) (hi : DD X W iter tl dd) (ok : BlkOk X.N X.env.scope scope own)
    (hg : ∀ (s : Shared) (H : Hp) (C : Addr) (cl : List (Str × Addr)) (fp : List Addr), GD (X.blk s H scope (compEnvC scope cl C X.env) fp) tg vs g dg) (ht : ∀ (s : Shared) (H : Hp) (C : Addr) (cl : List (Str × Addr)) (fp : List Addr), TsD (X.blk s H scope (compEnvC scope cl C X.env) fp) W' ifs tt dt)
    (he : ∀ (s : Shared) (H : Hp) (C : Addr) (cl : List (Str × Addr)) (fp : List Addr), DD (X.blk s H scope (compEnvC scope cl C X.env) fp) W' elt te de) (hv : ∀ j ∈ vs, j ∈ own.map (·.2) := by decide) (hs : ∀ x, foldedSetIterable iter X.env x = pure x := by intro _; rfl) :
    SD X W (.Assign [.Name y py] (.ListComp elt [⟨tg, iter, ifs, 0⟩] scope pos) spos) (tAsg (tLc (iAny X.K tl) g tt te (own.map (·.2))) (gName i)) (dSetN i (dLcA dd dg dt de (own.map (·.2)))) :=
  ⟨ps_setLc hc hN hy hyl hsw (pi_any hi.pe) ok (fun s H C cl fp => (hg s H C cl fp).pg) (fun s H C cl fp => (ht s H C cl fp).pt) (fun s H C cl fp => (he s H C cl fp).pe) hs, ev_setN (en_lcA (pos := pos) hc hN hi ok hg ht he hv hs).ev⟩
end
end My

set_option Elab.async false
set_option linter.all false
set_option maxRecDepth 100000
set_option maxHeartbeats 4000000
/-! F12: objects of own classes: made, their fields, their methods. -/
namespace My
open PySem L2
abbrev E00 : XK := fun _ _ _ => False
theorem passF {X : Cx} : Passes (L2.CX X.prog X.w) X E00 := fun _ _ _ _ _ _ _ c => by
  obtain ⟨_, _, _, _, _, _, _, _, _, _, _, _, z⟩ := c
  exact z.elim
/-- a method of a class computes g -/
def Okm (P : Program) (w : World) (K : PySem.W.Frag) (mg : Str → Option Value) (base : Heap) (k : Nat) (C : Addr) (m : Str) (ps : List Str) (g : G) : Prop :=
  ∃ f fd, Meth K C m f ∧ FnOk P w K mg base (L2.CX P w) k f fd ps (spG K g) ∧ ∀ us : List Value, us.length = ps.length → bindArgs fd ⟨us, []⟩ = pure (ps.zip us)
/-- a class that is made by its name -/
def Okc (P : Program) (w : World) (K : PySem.W.Frag) (mg : Str → Option Value) (base : Heap) (k : Nat) (x : Str) (C : Addr) (ps : List Str) (g : G) : Prop :=
  ∃ f fd, Mk K C f ∧ mg x = some (.ref C) ∧ FnOk P w K mg base (L2.CX P w) k f fd ps (spG K g) ∧ ∀ us : List Value, us.length = ps.length → bindArgs fd ⟨us, []⟩ = pure (ps.zip us)
/-- where a method stands -/
def HasM (K : PySem.W.Frag) (C : Addr) (m qual : Str) (st : Stmt) (ps : List Str) : Prop := ∃ f fd, Fun K m qual st f fd ∧ Meth K C m f ∧ ∀ us : List Value, us.length = ps.length → bindArgs fd ⟨us, []⟩ = pure (ps.zip us)
def HasC (K : PySem.W.Frag) (mg : Str → Option Value) (x : Str) (C : Addr) (qual : Str) (st : Stmt) (ps : List Str) : Prop := ∃ f fd, Fun K "__init__" qual st f fd ∧ Mk K C f ∧ mg x = some (.ref C) ∧ ∀ us : List Value, us.length = ps.length → bindArgs fd ⟨us, []⟩ = pure (ps.zip us)
theorem ok_hasM {P : Program} {w : World} {K : PySem.W.Frag} {mg : Str → Option Value} {base : Heap} {m qual : Str} {C : Addr} {st : Stmt} {N ps : List Str} {j k : Nat} {b : M Fl} (h : HasM K C m qual st ps) (S : FnScope N ps (defScope st)) (hk : ps.length = k) (hN : k ≤ N.length)
    (body : ∀ (f : Addr) (cdv : Value) (A : Around) (outer : List Env) (s : Shared) (H : Hp) (E : XK), Room j (A.deeper (PyProof.Rows.envOfC qual (defScope st) s.heap.objs.size f cdv)) →
      ∃ t, BD (cxOf (L2.CX P w) P w K mg base N qual (defScope st) f cdv A outer s H E) (fun cls d _ H => E cls d H) (defBody st) t b) : Okm P w K mg base (j + 1) C m ps (runD N.length k b) := by
  obtain ⟨f, fd, F, hm, hb⟩ := h
  exact ⟨f, fd, hm, fn_ok F S hk hN (body f), hb⟩
theorem ok_hasC {P : Program} {w : World} {K : PySem.W.Frag} {mg : Str → Option Value} {base : Heap} {x qual : Str} {C : Addr} {st : Stmt} {N ps : List Str} {j k : Nat} {b : M Fl} (h : HasC K mg x C qual st ps) (S : FnScope N ps (defScope st)) (hk : ps.length = k) (hN : k ≤ N.length)
    (body : ∀ (f : Addr) (cdv : Value) (A : Around) (outer : List Env) (s : Shared) (H : Hp) (E : XK), Room j (A.deeper (PyProof.Rows.envOfC qual (defScope st) s.heap.objs.size f cdv)) →
      ∃ t, BD (cxOf (L2.CX P w) P w K mg base N qual (defScope st) f cdv A outer s H E) (fun cls d _ H => E cls d H) (defBody st) t b) : Okc P w K mg base (j + 1) x C ps (runD N.length k b) := by
  obtain ⟨f, fd, F, hm, hg, hb⟩ := h
  exact ⟨f, fd, hm, hg, fn_ok F S hk hN (body f), hb⟩
theorem Okm.by {P : Program} {w : World} {K : PySem.W.Frag} {mg : Str → Option Value} {base : Heap} {k : Nat} {C : Addr} {m : Str} {ps : List Str} {g g' : G} (h : Okm P w K mg base k C m ps g) (e : ∀ ds S, g' ds S ≠ .no → g ds S = g' ds S) : Okm P w K mg base k C m ps g' := by
  obtain ⟨f, fd, hm, F, hb⟩ := h
  exact ⟨f, fd, hm, FnOk.by F e, hb⟩
theorem Okc.by {P : Program} {w : World} {K : PySem.W.Frag} {mg : Str → Option Value} {base : Heap} {k : Nat} {x : Str} {C : Addr} {ps : List Str} {g g' : G} (h : Okc P w K mg base k x C ps g) (e : ∀ ds S, g' ds S ≠ .no → g ds S = g' ds S) : Okc P w K mg base k x C ps g' := by
  obtain ⟨f, fd, hm, hg, F, hb⟩ := h
  exact ⟨f, fd, hm, hg, FnOk.by F e, hb⟩
/-- what an object of the store has -/
def insD (c : Stt) (C : Addr) : D → Option (List (Str × D))
  | .loc n => match c.S[n]? with
    | some (.ins C' fs) => if C' = C then some fs else none
    | _ => none
  | _ => none
def insO (c : Stt) (C : Addr) : O → Option (List (Str × D))
  | .d x => insD c C x
  | _ => none
theorem lookup_map {α : Type} {fs : List (Str × α)} : ∀ {gs : List (Str × V)} {m : Str}, gs.map (·.1) = fs.map (·.1) → fs.lookup m = none → gs.lookup m = none := by
  induction fs with
  | nil =>
    intro gs m h _
    cases gs with
    | nil => rfl
    | cons a r => cases h
  | cons f fs ih =>
    intro gs m h e
    cases gs with
    | nil => cases h
    | cons a r =>
      obtain ⟨f1, f2⟩ := f
      obtain ⟨a1, a2⟩ := a
      rw [List.map_cons, List.map_cons] at h
      obtain ⟨h1, h2⟩ := List.cons.inj h
      replace h1 : a1 = f1 := h1
      subst h1
      rw [List.lookup_cons] at e ⊢
      cases q : m == a1 with
      | true => rw [q] at e; cases e
      | false => rw [q] at e; exact ih h2 e
theorem lookup_rep {K : PySem.W.Frag} {F : Hp} {μ : List Addr} {m : Str} {x : D} : ∀ {fs : List (Str × D)} {gs : List (Str × V)}, gs.map (·.1) = fs.map (·.1) → Reps K F μ (gs.map (·.2)) (fs.map (·.2)) → fs.lookup m = some x → ∃ v, gs.lookup m = some v ∧ Rep K F μ v x
  | [], _, _, _, e => by cases e
  | (f1, f2) :: fs, [], h, _, _ => by cases h
  | (f1, f2) :: fs, (a1, a2) :: gs, h, r, e => by
    rw [List.map_cons, List.map_cons] at h r
    obtain ⟨h1, h2⟩ := List.cons.inj h
    replace h1 : a1 = f1 := h1
    subst h1
    rw [List.lookup_cons] at e ⊢
    cases r with
    | cons r1 r2 =>
      cases q : m == a1 with
      | true => rw [q] at e; cases e; exact ⟨_, rfl, r1⟩
      | false => rw [q] at e; exact lookup_rep h2 r2 e
/-- a field's new value -/
def putFD (f : Str) (x : D) : List (Str × D) → List (Str × D)
  | [] => [(f, x)]
  | (g, y) :: r => if g = f then (g, x) :: r else (g, y) :: putFD f x r
theorem putF_rep {K : PySem.W.Frag} {F : Hp} {μ : List Addr} {f : Str} {x : D} {v : V} (rv : Rep K F μ v x) : ∀ {fs : List (Str × D)} {gs : List (Str × V)}, gs.map (·.1) = fs.map (·.1) → Reps K F μ (gs.map (·.2)) (fs.map (·.2)) → (putF f v gs).map (·.1) = (putFD f x fs).map (·.1) ∧ Reps K F μ ((putF f v gs).map (·.2)) ((putFD f x fs).map (·.2))
  | [], [], _, _ => ⟨rfl, .cons rv .nil⟩
  | [], _ :: _, h, _ => by cases h
  | _ :: _, [], h, _ => by cases h
  | (f1, f2) :: fs, (a1, a2) :: gs, h, r => by
    rw [List.map_cons, List.map_cons] at h r
    obtain ⟨h1, h2⟩ := List.cons.inj h
    replace h1 : a1 = f1 := h1
    subst h1
    cases r with
    | cons r1 r2 =>
      unfold putF putFD
      split
      · exact ⟨by rw [List.map_cons, List.map_cons]; exact congrArg _ h2, .cons rv r2⟩
      · obtain ⟨e1, e2⟩ := putF_rep rv h2 r2
        exact ⟨by rw [List.map_cons, List.map_cons]; exact congrArg _ e1, .cons r1 e2⟩
section
variable {K : PySem.W.Frag} {Z F : Hp} {μ : List Addr} {c : Stt} {σ : St} {H : Hp}
theorem ins_at {C : Addr} {v : V} {x : D} {fs : List (Str × D)} (h : Rel K Z F μ c σ H) (r : Rep K F μ v x) (e : insD c C x = some fs) :
    ∃ a dx gs n, x = .loc n ∧ v = .ref a ∧ μ[n]? = some a ∧ c.S[n]? = some (.ins C fs) ∧ H a = some (.ins C dx gs) ∧ gs.map (·.1) = fs.map (·.1) ∧ Reps K F μ (gs.map (·.2)) (fs.map (·.2)) := by
  cases r with
  | loc hn =>
    unfold insD at e
    dsimp only at e
    split at e
    · next C' fs' hs =>
      split at e
      · next hC =>
        cases e
        subst hC
        obtain ⟨_, _, ⟨u, e1, e2⟩, _⟩ := h.sto _ _ _ hn hs
        cases e2 with
        | ins k r => exact ⟨_, _, _, _, rfl, rfl, hn, hs, e1, k, r⟩
      · cases e
    · cases e
  | _ => cases e
theorem ins_atO {C : Addr} {v : V} {x : O} {fs : List (Str × D)} (h : Rel K Z F μ c σ H) (r : RepO K F μ σ v x) (e : insO c C x = some fs) :
    ∃ a dx gs n, x = .d (.loc n) ∧ v = .ref a ∧ μ[n]? = some a ∧ c.S[n]? = some (.ins C fs) ∧ H a = some (.ins C dx gs) ∧ gs.map (·.1) = fs.map (·.1) ∧ Reps K F μ (gs.map (·.2)) (fs.map (·.2)) := by
  cases r with
  | d r =>
    obtain ⟨a, dx, gs, n, rfl, h2⟩ := ins_at h r e
    exact ⟨a, dx, gs, n, rfl, h2⟩
  | sl q => cases e
end
section
variable {X : Cx} {W : WX} {o e : Expr} {t to te : TE} {pos apos : Pos} {dob : M O} {dv : M D} {es : List Expr} {tr : TA} {dr : M (List D)}
/-- o.f -/
def dFld (C : Addr) (f : Str) (dob : M O) : M D := M.bind dob fun x c => match insO c C x with
  | some fs => match fs.lookup f with
    | some y => .ok y c
    | none => .no
  | none => .no
theorem dd_fld {K : PySem.W.Frag} {C : Addr} {f : Str} (cl : Cls X.K C) (na : NoAttr X.K C f) (ho : ED X W o to dob) (hb : attributeBase o f X.env (eval o X.env) = eval o X.env := by rfl) (hK : X.K = K := by rfl) : DD X W (.Attribute o f pos) (tFld K to f) (dFld C f dob) := by
  subst hK
  exact ⟨pe_fld ho.pe hb, fun Z F μ c σ H Q R p => ho.ev Z F μ c σ H _ R (p.bind.imp fun x c1 F1 μ1 H1 l1 R1 p1 v r => by
    split at p1
    · next fs hfs =>
      split at p1
      · next y hy =>
        obtain ⟨a, dx, gs, n, rfl, rfl, hn, hs, ha, k, rs⟩ := ins_atO R1 r hfs
        obtain ⟨u, hu, ru⟩ := lookup_rep k rs hy
        exact ⟨a, C, dx, gs, u, rfl, ha, cl, na, hu, p1 F1 μ1 H1 (Le.refl _ _) R1 _ ru⟩
      · exact p1.elim
    · exact p1.elim)⟩
/-- o.f = e -/
def dSetF (C : Addr) (f : Str) (dv : M D) (dob : M O) : M Fl := M.bind dv fun y => M.bind dob fun x c => match x with
  | .d (.loc n) => match insD c C (.loc n) with
    | some fs => if fs.length < 1000 then .ok .nx ⟨c.r, c.S.set n (.ins C (putFD f y fs))⟩ else .no
    | none => .no
  | _ => .no
theorem sd_fld {K : PySem.W.Frag} {C : Addr} {f : Str} {pos' : Pos} (cl : Cls X.K C) (na : NoAttr X.K C f) (ho : ED X W o to dob) (hv : DD X W e te dv) (hs : swapsWith e (some (.Attribute o f pos')) pos.line X.env = pure false := by rfl) (hK : X.K = K := by rfl) : SD X W (.Assign [.Attribute o f pos'] e pos) (sFld K to te f) (dSetF C f dv dob) := by
  subst hK
  exact ⟨ps_fld ho.pe hv.pe hs, fun Z F μ c σ H D R p => hv.ev Z F μ c σ H _ R (p.bind.imp fun y c1 F1 μ1 H1 l1 R1 p1 v r => ho.ev Z F1 μ1 c1 σ H1 _ R1 (p1.bind.imp fun x c2 F2 μ2 H2 l2 R2 p2 u ru => by
    split at p2
    · next n =>
      split at p2
      · next fs hfs =>
        split at p2
        · next hz =>
          obtain ⟨a, dx, gs, n', e1, rfl, hn, hs, ha, k, rs⟩ := ins_atO R2 ru (show insO c2 C (.d (.loc n)) = some fs from hfs)
          cases e1
          obtain ⟨k', rs'⟩ := putF_rep (f := f) (r.mono l2) k rs
          have hl : gs.length < 1000 := by
            have : (gs.map (·.1)).length = (fs.map (·.1)).length := by rw [k]
            rw [List.length_map, List.length_map] at this
            omega
          exact ⟨a, C, dx, gs, rfl, ha, cl, na, hl, p2 _ F2 μ2 _ (Le.refl _ _) (R2.put hs trivial hn (.ins k' rs'))⟩
        · exact p2.elim
      · exact p2.elim
    · exact p2.elim))⟩
/-- o.m(..) -/
def dMeth (C : Addr) (m : Str) (g : G) (dob : M O) (dr : M (List D)) : M D := M.bind dob fun x c => match x with
  | .d y => match insD c C y with
    | some fs => if fs.lookup m = none then M.bind dr (fun ds c => match g (y :: ds) c.S with
        | .ok d S => .ok d ⟨c.r, S⟩
        | _ => .no) c else .no
    | none => .no
  | _ => .no
theorem sp_meth {K : PySem.W.Frag} {Z F : Hp} {μ : List Addr} {c : Stt} {σ : St} {H : Hp} {g : G} {ds : List D} {vs : List V} {Q : VK} (RR : Rel K Z F μ c σ H) (rs : Reps K F μ vs ds)
    (p : Post K Z F μ σ W (match g ds c.S with
        | .ok d S => R.ok d ⟨c.r, S⟩
        | _ => .no) (fun x _ F' μ' H' => ∀ v, Rep K F' μ' v x → Q v H')) : spG K g vs H Q E00 := by
  refine ⟨lend Z c σ H, F, μ, c.S, ds, lend_of RR, rs, ?_⟩
  cases e : g ds c.S with
  | ok d S => rw [e] at p; exact fun v F' μ' H' le R' rv => p F' μ' H' le (lend_back RR le R') v rv
  | ex x S => rw [e] at p; exact p.elim
  | no => rw [e] at p; exact p.elim
theorem ev_meth {K : PySem.W.Frag} {C : Addr} {m : Str} {g : G} (ho : EvE K W to dob) (ha : EvA K W tr dr) : EvD K W (tMeth C m (spG K g) [] E00 to tr) (dMeth C m g dob dr) := fun Z F μ c σ H Q R p => ho Z F μ c σ H _ R (p.bind.imp fun x c1 F1 μ1 H1 l1 R1 p1 v r => by
    split at p1
    · next y =>
      split at p1
      · next fs hfs =>
        split at p1
        · next hl =>
          cases r with
          | d r =>
            obtain ⟨a, dx, gs, n, rfl, rfl, hn, hs, hh, k, rs⟩ := ins_at R1 r hfs
            refine ⟨a, dx, gs, rfl, hh, lookup_map k hl, ha Z F1 μ1 c1 σ H1 _ R1 (p1.bind.imp fun ds c2 F2 μ2 H2 l2 R2 p2 vs rs2 => ?_)⟩
            rw [List.append_nil]
            exact sp_meth R2 (.cons (r.mono l2) rs2) p2
        · exact p1.elim
      · exact p1.elim
    · exact p1.elim)
theorem dd_meth {K : PySem.W.Frag} {C : Addr} {m : Str} {k : Nat} {ps : List Str} {g : G} {pl : Sem Bool} (h : Okm X.prog X.w X.K X.mg X.base k C m ps g) (hr : Room k X.A) (cl : Cls X.K C) (ho : ED X W o to dob) (ha : AD X W (e :: es) tr dr)
    (hst : starEach (e :: es) X.env = (false, eval e X.env) :: starEach es X.env := by rfl) (hpl : (backTo pos (starEach es X.env)).any (·.1) = false := by rfl)
    (ht : eval (.Call (.Attribute o m apos) (e :: es) [] pos) X.env = (do
      let ov ← eval o X.env
      standAt apos.atName
      let (f, first) ← holding [ov] (getMethod ov m pl)
      callWith pos f first (backTo pos (starEach (e :: es) X.env)) (backToKw pos (keywordEach [] X.env))) := by rfl) (hK : X.K = K := by rfl) :
    DD X W (.Call (.Attribute o m apos) (e :: es) [] pos) (tMeth C m (spG K g) [] E00 to tr) (dMeth C m g dob dr) := by
  subst hK
  obtain ⟨f, fd, hm, F, hb⟩ := h
  exact ⟨pe_meth (pl := pl) ho.pe cl hm F hr (.all hb) .nil passF ha.pa hst hpl ht, ev_meth ho.ev ha.ev⟩
theorem dd_meth0 {K : PySem.W.Frag} {C : Addr} {m : Str} {k : Nat} {ps : List Str} {g : G} {pl : Sem Bool} (h : Okm X.prog X.w X.K X.mg X.base k C m ps g) (hr : Room k X.A) (cl : Cls X.K C) (ho : ED X W o to dob)
    (ht : eval (.Call (.Attribute o m apos) [] [] pos) X.env = (do
      let ov ← eval o X.env
      standAt apos.atName
      let (f, first) ← holding [ov] (getMethod ov m pl)
      callWith pos f first (backTo pos (starEach [] X.env)) (backToKw pos (keywordEach [] X.env))) := by rfl) (hK : X.K = K := by rfl) :
    DD X W (.Call (.Attribute o m apos) [] [] pos) (tMeth C m (spG K g) [] E00 to tNil) (dMeth C m g dob dNil) := by
  subst hK
  obtain ⟨f, fd, hm, F, hb⟩ := h
  exact ⟨pe_meth0 (pl := pl) ho.pe cl hm F hr (.all hb) .nil passF ht, ev_meth ho.ev (ad_nil (X := X)).ev⟩
/-- C(..) -/
def dMake (C : Addr) (g : G) (dr : M (List D)) : M D := M.bind dr fun ds c => match g (.loc c.S.length :: ds) (c.S ++ [.ins C []]) with
  | .ok (.v .non) S => .ok (.loc c.S.length) ⟨c.r, S⟩
  | _ => .no
theorem ev_make {K : PySem.W.Frag} {C : Addr} {g : G} (ha : EvA K W tr dr) : EvD K W (tMake C (spG K g) [] E00 tr) (dMake C g dr) := fun Z F μ c σ H Q R p => ha Z F μ c σ H _ R (p.bind.imp fun ds c1 F1 μ1 H1 l1 R1 p1 vs rs x dx hx hdx hne => by
    have hx1 : upd H1 dx (.own x) x = none := by rw [upd_ne (fun e => hne e.symm)]; exact hx
    have R2 := (R1.up (same_new hdx)).up (same_new (o := .ins C dx []) hx1)
    have nb := R1.nob hx
    obtain ⟨R3, l3⟩ := R2.push (m := .ins C []) upd_same nb.f nb.z nb.no nb.nm (.ins rfl .nil)
    have hnl : (μ1 ++ [x])[c1.S.length]? = some x := by
      have : μ1.length = c1.S.length := R1.lm
      rw [← this]
      simp
    rw [List.append_nil]
    refine ⟨lend Z _ σ _, F1, _, c1.S ++ [.ins C []], .loc c1.S.length :: ds, lend_of R3, .cons (.loc hnl) (rs.mono l3), ?_⟩
    cases eg : g (.loc c1.S.length :: ds) (c1.S ++ [.ins C []]) with
    | ok d S =>
      rw [eg] at p1
      cases d with
      | v z =>
        cases z with
        | non =>
          refine fun v F' μ' H' le R' rv => ?_
          cases rv
          have Rb := lend_back R3 le R'
          exact ⟨rfl, p1 F' μ' H' (l3.trans le) Rb _ (.loc (le.mu _ _ hnl))⟩
        | _ => exact p1.elim
      | _ => exact p1.elim
    | ex x S => rw [eg] at p1; exact p1.elim
    | no => rw [eg] at p1; exact p1.elim)
theorem dd_make {K : PySem.W.Frag} {C : Addr} {x : Str} {k : Nat} {ps : List Str} {g : G} {p : Pos} (h : Okc X.prog X.w X.K X.mg X.base k x C ps g) (hr : Room (k + 1) X.A) (hg : Gl X x) (ha : AD X W (e :: es) tr dr)
    (hdb : (x == ("__debug__" : Str)) = false := by decide) (he : starEach (e :: es) X.env = (false, eval e X.env) :: starEach es X.env := by rfl) (hpl : (backTo pos (starEach es X.env)).any (·.1) = false := by rfl) (hK : X.K = K := by rfl) :
    DD X W (.Call (.Name x p) (e :: es) [] pos) (tMake C (spG K g) [] E00 tr) (dMake C g dr) := by
  subst hK
  obtain ⟨f, fd, M, hm, F, hb⟩ := h
  exact ⟨pe_make M F hr hg hm (.all hb) .nil passF ha.pa hdb he hpl, ev_make ha.ev⟩
theorem dd_make0 {K : PySem.W.Frag} {C : Addr} {x : Str} {k : Nat} {ps : List Str} {g : G} {p : Pos} (h : Okc X.prog X.w X.K X.mg X.base k x C ps g) (hr : Room (k + 1) X.A) (hg : Gl X x)
    (hdb : (x == ("__debug__" : Str)) = false := by decide) (hK : X.K = K := by rfl) :
    DD X W (.Call (.Name x p) [] [] pos) (tMake C (spG K g) [] E00 tNil) (dMake C g dNil) := by
  subst hK
  obtain ⟨f, fd, M, hm, F, hb⟩ := h
  exact ⟨pe_make0 M F hr hg hm (.all hb) .nil passF hdb, ev_make (ad_nil (X := X)).ev⟩
end
end My

set_option Elab.async false
set_option linter.all false
set_option maxRecDepth 100000
set_option maxHeartbeats 4000000
/-! F13: the order of data; lists by remove, pop; min of tuples. -/
namespace My
open PySem L2
section
variable {X : Cx} {W : WX} {a b e o : Expr} {t ta tb to te : TE} {pos apos : Pos} {da db dob : M O}
/-! ### < of data of one form -/
def someP : PyData → Bool
  | .none => false
  | _ => true
def gLtD : O → O → M D := fun a b c => match pyO c a, pyO c b with
  | some p, some q => if PySem.W.alike p q = true ∧ someP p = true ∧ p.depth ≤ 64 then .ok (.v (.bl (PySem.W.dataLt p q))) c else .no
  | _, _ => .no
def rLtD (K : PySem.W.Frag) : R2 := fun x y H Q => ∃ d e, Dp K H x d ∧ Dp K H y e ∧ PySem.W.alike d e = true ∧ d ≠ .none ∧ d.depth ≤ 64 ∧ Q (.bl (PySem.W.dataLt d e)) H
theorem op_ltD (hu : X.A.units + 64 < cLine) : OpR X (compareOp .Lt) (rLtD X.K) := by
  intro pins s σ H x y v u Q I rx ry h
  obtain ⟨d, e, hd, he, ha, hn, hz, q⟩ := h
  obtain ⟨as, r1⟩ := Dp.reads I d x v hd rx
  obtain ⟨bs, r2⟩ := Dp.reads I e y u he ry
  have hm : X.A.units + min d.depth e.depth < cLine := by
    have : min d.depth e.depth ≤ d.depth := Nat.min_le_left _ _
    omega
  exact PySem.W.lt_data r1 r2 ha hn hm ⟨.bl _, H, I, rfl, q⟩
theorem r2_ltD {K : PySem.W.Frag} : R2S K W (rLtD K) gLtD := fun Z F μ c σ H Q x y a b R rx ry p => by
  unfold gLtD at p
  split at p
  · next d e h1 h2 =>
    split at p
    · next hs => exact ⟨d, e, dpO_of R rx h1, dpO_of R ry h2, hs.1, (fun z => by subst z; cases hs.2.1), hs.2.2, p F μ H (Le.refl _ _) R _ (.v _)⟩
    · exact p.elim
  · exact p.elim
def rLtA (K : PySem.W.Frag) : R2 := fun x y H Q => rI0 (fun i j => .bl (decide (i < j))) x y H Q ∨ rLtD K x y H Q
def gLtA : O → O → M D := gOr (gI iLt) gLtD
theorem cLtA {K : PySem.W.Frag} (hu : X.A.units + 64 < cLine) (hK : X.K = K := by rfl) : CmpR X W .Lt (rLtA K) gLtA := by
  subst hK
  exact ⟨op_lt.or (op_ltD hu), r2_lt.or r2_ltD⟩
/-! ### o.pop() -/
def dPop (dob : M O) : M D := M.bind dob fun o c => match mutD c o with
  | some ds => match ds[ds.length - 1]? with
    | some x => .ok x (putL o ds.dropLast c)
    | none => .no
  | none => .no
theorem dd_pop {K : PySem.W.Frag} (ho : ED X W o to dob) (hbase : attributeBase o "pop" X.env (eval o X.env) = eval o X.env := by rfl) (hline : (apos.endLine == pos.line) = true := by rfl) (hK : X.K = K := by rfl) :
    DD X W (.Call (.Attribute o "pop" apos) [] [] pos) (tBM0 K "list" rPop to) (dPop dob) := by
  subst hK
  exact ⟨pe_bm0 PySem.F.plainAttrs_list PySem.F.slot_list_pop PySem.F.type_list_pop mt_pop ho.pe hbase hline, fun Z F μ c σ H Q R p => ho.ev Z F μ c σ H _ R (p.bind.imp fun x c1 F1 μ1 H1 l1 R1 p1 v r => by
    split at p1
    · next ds hs =>
      split at p1
      · next y hy =>
        obtain ⟨l, vs, rfl, h1, rs, k⟩ := mut_at R1 r hs
        rw [← rs.length] at hy
        obtain ⟨u, hu, ru⟩ : ∃ u, vs[vs.length - 1]? = some u ∧ Rep X.K F1 μ1 u y := rs.get hy
        exact ⟨.inl ⟨rfl, _, .of h1⟩, l, vs, u, rfl, rfl, h1, hu, p1 F1 μ1 _ (Le.refl _ _) (k _ _ rs.dropLast) _ ru⟩
      · exact p1.elim
    · exact p1.elim)⟩
/-! ### o.remove(e) -/
/-- the first place of an equal item -/
def firstEq (q : PyData) : List PyData → Option Nat
  | [] => none
  | p :: ps => if PyData.eqv p q = true then some 0 else (firstEq q ps).map (· + 1)
theorem firstEq_at {q : PyData} : ∀ {ps : List PyData} {j : Nat}, firstEq q ps = some j → (∃ p, ps[j]? = some p ∧ PyData.eqv p q = true) ∧ ∀ m, m < j → ∀ p, ps[m]? = some p → PyData.eqv p q = false
  | [], _, e => by cases e
  | p :: ps, j, e => by
    unfold firstEq at e
    split at e
    · next h => cases e; exact ⟨⟨p, rfl, h⟩, fun m hm => absurd hm (Nat.not_lt_zero _)⟩
    · next h =>
      cases h2 : firstEq q ps with
      | none => rw [h2] at e; cases e
      | some i =>
        rw [h2] at e
        cases e
        obtain ⟨h3, h4⟩ := firstEq_at h2
        refine ⟨h3, fun m hm p' hp' => ?_⟩
        cases m with
        | zero => cases hp'; simpa using h
        | succ m => exact h4 m (Nat.lt_of_succ_lt_succ hm) p' hp'
def rRemP (K : PySem.W.Frag) : V → List V → Hp → VK → Prop := fun x ys H Q => ∃ l vs y ps q j, x = .ref l ∧ ys = [y] ∧ H l = some (.lst vs) ∧ DpAll K H vs ps ∧ Dp K H y q ∧ PyData.plainAll ps = true ∧ q.plain = true ∧ q.depth ≤ 64 ∧ firstEq q ps = some j ∧ Q .non (upd H l (.lst (vs.eraseIdx j)))
theorem plainAll_get : ∀ {ps : List PyData} {i : Nat} {p : PyData}, PyData.plainAll ps = true → ps[i]? = some p → p.plain = true
  | [], _, _, _, e => by simp at e
  | q :: ps, 0, p, h, e => by
    have h' : (q.plain && PyData.plainAll ps) = true := h
    rw [Bool.and_eq_true] at h'
    cases e
    exact h'.1
  | q :: ps, i + 1, p, h, e => by
    have h' : (q.plain && PyData.plainAll ps) = true := h
    rw [Bool.and_eq_true] at h'
    exact plainAll_get h'.2 (by simpa using e)
theorem readsAll_get {h : Heap} : ∀ {us : List Value} {ps : List PyData} {as : List Addr} {i : Nat} {u : Value}, ReadsAll h us ps as → us[i]? = some u → ∃ p bs, ps[i]? = some p ∧ Reads h u p bs
  | _, _, _, _, _, .nil, e => by simp at e
  | _, _, _, 0, u, .cons r _, e => by cases e; exact ⟨_, _, rfl, r⟩
  | _, _, _, i + 1, u, .cons _ rs, e => by
    obtain ⟨p, bs, h1, h2⟩ := readsAll_get rs (by simpa using e)
    exact ⟨p, bs, by simpa using h1, h2⟩
theorem mt_rem (hu : X.A.units + 66 < cLine) : MtM X "list.remove" (rRemP X.K) := by
  intro pins s σ H x ys v us Q I rx rxs h
  obtain ⟨l, vs, y, ps, q, j, rfl, rfl, hH, hps, hq, pp, pq, hz, hj, k⟩ := h
  cases rx
  obtain ⟨u, rfl, ru⟩ := rxs.one
  obtain ⟨z, its, n, r, hl, e⟩ := I.lstM hH
  obtain ⟨as, ra⟩ := Dp.readsAll I ps vs its hps r
  obtain ⟨bs, rb⟩ := Dp.reads I q y u hq ru
  obtain ⟨⟨p, hp, he⟩, hno⟩ := firstEq_at hj
  have hln : its.length = ps.length := by
    have := PySem.W.readsAll_len (vs := its.toArray) (by simpa using ra)
    simpa using this
  have hjn : j < its.length := by
    rw [hln]
    exact (List.getElem?_eq_some_iff.mp hp).1
  have hjl : j < its.toArray.size := by rw [List.size_toArray]; exact hjn
  classical
  let ee : Value → Bool := fun w => decide (∃ p as, p.plain = true ∧ Reads s.heap w p as ∧ PyData.eqv p q = true)
  have hee : ∀ {i : Nat} {w : Value} {p : PyData}, its[i]? = some w → ps[i]? = some p → ee w = PyData.eqv p q := fun {i w p} h1 h2 => by
    obtain ⟨p', bs', h3, h4⟩ := readsAll_get ra h1
    rw [h2] at h3; cases h3
    have pl := plainAll_get pp h2
    show decide _ = _
    cases hv : PyData.eqv p q with
    | true => exact decide_eq_true ⟨p, bs', pl, h4, hv⟩
    | false =>
      refine decide_eq_false ?_
      rintro ⟨p2, as2, pl2, r2, e2⟩
      have := PySem.SeqAt.plain_unique _ _ _ _ _ pl2 r2 h4
      rw [this, hv] at e2
      cases e2
  refine call_meets PySem.F.slot_list_remove ⟨_, e, rfl⟩ PySem.F.entry_list_remove (PySem.F.args_list_remove_2 _ _)
    (PySem.SeqAt.list_removeAt l its.toArray n none #[] u ee j hjl ?_ ?_ (by rw [List.size_toArray, ← hl]; exact z)) ⟨e, ?_, ?_⟩
  · have : its[j]? = some its.toArray[j] := by simp
    rw [hee this hp]
    exact he
  · intro m hm hmj
    have hm' : m < its.length := by simpa using hm
    have h1 : its[m]? = some its.toArray[m] := by simp [hm']
    obtain ⟨p', bs', h3, h4⟩ := readsAll_get ra h1
    rw [hee h1 h3]
    exact hno m hmj p' h3
  · intro w hw
    obtain ⟨i, hi⟩ : ∃ i, its[i]? = some w := List.getElem?_of_mem (by simpa using hw)
    obtain ⟨p', bs', h3, h4⟩ := readsAll_get ra hi
    rw [hee hi h3]
    refine PySem.SeqAt.eqAt_plain _ _ _ _ _ _ _ _ h4 rb (plainAll_get pp h3) pq ?_
    show X.A.units + 1 + min p'.depth q.depth < cLine
    have : min p'.depth q.depth ≤ q.depth := Nat.min_le_right _ _
    omega
  · have rr := r.eraseIdx j
    refine ⟨.non, _, I.lset (its' := its.eraseIdx j) (t' := s.toks) hH e ?_ rr ?_, rfl, k⟩
    · show its.toArray.eraseIdxIfInBounds j = (its.eraseIdx j).toArray
      rw [List.eraseIdxIfInBounds_toArray]
    · have : (vs.eraseIdx j).length ≤ vs.length := by
        rw [List.length_eraseIdx]
        split <;> omega
      omega
/-- o.remove(e) -/
def dRem (dob : M O) (de : M D) : M D := M.bind dob fun o c => match mutD c o with
  | some _ => M.bind de (fun x c => match mutD c o with
      | some ds => match pyDs ds, pyO c (.d x) with
        | some ps, some q => match firstEq q ps with
          | some j => if q.depth ≤ 64 then .ok (.v .non) (putL o (ds.eraseIdx j) c) else .no
          | none => .no
        | _, _ => .no
      | none => .no) c
  | none => .no
theorem Reps.eraseIdx {K : PySem.W.Frag} {F : Hp} {μ : List Addr} : ∀ {vs : List V} {ds : List D} (j : Nat), Reps K F μ vs ds → Reps K F μ (vs.eraseIdx j) (ds.eraseIdx j)
  | _, _, _, .nil => by
    rw [List.eraseIdx_nil, List.eraseIdx_nil]
    exact .nil
  | _, _, 0, .cons _ rs => rs
  | _, _, j + 1, .cons r rs => .cons r (Reps.eraseIdx j rs)
theorem dd_rem {K : PySem.W.Frag} {de : M D} (hu : X.A.units + 66 < cLine) (ho : ED X W o to dob) (he : DD X W e te de) (hbase : attributeBase o "remove" X.env (eval o X.env) = eval o X.env := by rfl)
    (hfew : ((backTo pos (starEach [e] X.env)).all (fun x => !x.1) && (backToKw pos (keywordEach [] X.env)).all (fun x => x.1.isSome)
      && decide (([e] : List Expr).length + ([] : List Keyword).length + (if ([] : List Keyword).isEmpty then 0 else 1) < 30)) = true := by rfl)
    (hline : (apos.endLine == pos.line) = true := by rfl) (hs : starEach [e] X.env = (false, eval e X.env) :: starEach [] X.env := by rfl) (hplain : (backTo pos (starEach [] X.env)).any (·.1) = false := by rfl)
    (hs2 : starEach [e] X.env = (false, eval e X.env) :: starEach [] X.env := by rfl) (hK : X.K = K := by rfl) :
    DD X W (.Call (.Attribute o "remove" apos) [e] [] pos) (tBM K "list" (rRemP K) to (tCons te tNil)) (dRem dob de) := by
  subst hK
  exact ⟨pe_bm PySem.F.plainAttrs_list PySem.F.slot_list_remove PySem.F.type_list_remove (mt_rem hu) ho.pe (pa_cons he.pe pa_nil hs2) hbase hfew hline hs hplain, fun Z F μ c σ H Q R p => ho.ev Z F μ c σ H _ R (p.bind.imp fun oo c1 F1 μ1 H1 l1 R1 p1 v1 r1 => by
    split at p1
    · next ds0 hs0 =>
      obtain ⟨a0, vs0, rfl, h0, _, _⟩ := mut_at R1 r1 hs0
      refine ⟨.inl ⟨rfl, _, .of h0⟩, he.ev Z F1 μ1 c1 σ H1 _ R1 (p1.bind.imp fun x c2 F2 μ2 H2 l2 R2 p2 v2 r2 => ?_)⟩
      split at p2
      · next ds hs =>
        split at p2
        · next ps q h1 h2 =>
          split at p2
          · next j hj =>
            split at p2
            · next hz =>
              obtain ⟨a2, vs2, e2, h3, rs, k⟩ := mut_at R2 (r1.mono l2) hs
              cases e2
              exact ⟨_, vs2, v2, ps, q, j, rfl, rfl, h3, dps_of R2.ex rs h1, dpO_of R2 (.d r2) h2, pyDs_plain h1, pyO_plain h2, hz, hj, p2 F2 μ2 _ (Le.refl _ _) (k _ _ (Reps.eraseIdx j rs)) _ (.v _)⟩
            · exact p2.elim
          · exact p2.elim
        · exact p2.elim
      · exact p2.elim
    · exact p1.elim)⟩
end
/-! ### min of tuples of whole numbers -/
def tupI (t : List Int) : D := .tup (t.map I)
def tisD : List D → Option (List (List Int))
  | [] => some []
  | .tup ds :: r => match intsD ds, tisD r with
    | some t, some ts => some (t :: ts)
    | _, _ => none
  | _ => none
theorem tisD_eq : ∀ {ds : List D} {ts : List (List Int)}, tisD ds = some ts → ds = ts.map tupI
  | [], ts, e => by unfold tisD at e; cases e; rfl
  | .tup ds :: r, ts, e => by
    unfold tisD at e
    cases h1 : intsD ds with
    | none => rw [h1] at e; cases e
    | some t =>
      rw [h1] at e
      cases h2 : tisD r with
      | none => rw [h2] at e; cases e
      | some us =>
        rw [h2] at e
        cases e
        rw [tisD_eq h2, intsD_eq h1]
        rfl
  | .v _ :: _, _, e => by unfold tisD at e; cases e
  | .lst _ :: _, _, e => by unfold tisD at e; cases e
  | .scr _ :: _, _, e => by unfold tisD at e; cases e
  | .dct _ :: _, _, e => by unfold tisD at e; cases e
  | .ins _ _ :: _, _, e => by unfold tisD at e; cases e
  | .loc _ :: _, _, e => by unfold tisD at e; cases e
theorem tisD_map : ∀ ts : List (List Int), tisD (ts.map tupI) = some ts
  | [] => rfl
  | t :: ts => by
    show tisD (.tup (t.map I) :: ts.map tupI) = _
    unfold tisD
    rw [intsD_map, tisD_map ts]
theorem pyDs_tups : ∀ ts : List (List Int), pyDs (ts.map tupI) = some (ts.map fun t => PySem.W.Datum.toD (PySem.W.Tup.mk t))
  | [] => rfl
  | t :: ts => by
    show pyDs (.tup (t.map I) :: ts.map tupI) = _
    unfold pyDs
    have e : pyD (.tup (t.map I)) = some (PySem.W.Datum.toD (PySem.W.Tup.mk t)) := by
      unfold pyD
      rw [pyDs_ints]
      rfl
    rw [e, pyDs_tups ts]
    rfl
/-- the order of rows -/
abbrev rowLt (a b : List Int) : Bool := PySem.W.listLt a b
def minT (t : List Int) (ts : List (List Int)) : List Int := ts.foldl (fun a y => if rowLt y a = true then y else a) t
theorem minT_of (t : List Int) : ∀ ts : List (List Int), (PySem.W.minOf (PySem.W.Tup.mk t) (ts.map PySem.W.Tup.mk)).items = minT t ts := fun ts => by
  unfold PySem.W.minOf minT
  induction ts generalizing t with
  | nil => rfl
  | cons u us ih =>
    rw [List.map_cons, List.foldl_cons, List.foldl_cons]
    have e : (if PySem.W.DatumOrd.lt (PySem.W.Tup.mk u) (PySem.W.Tup.mk t) = true then PySem.W.Tup.mk u else PySem.W.Tup.mk t) = PySem.W.Tup.mk (if rowLt u t = true then u else t) := by
      show (if rowLt u t = true then _ else _) = _
      split <;> rfl
    rw [e]
    exact ih _
section
variable {X : Cx} {W : WX}
def rMinT (K : PySem.W.Frag) : List V → Hp → VK → Prop := fun xs H Q => ∃ p vs t ts, xs = [.ref p] ∧ SqL K H p vs ∧ DpAll K H vs ((t :: ts).map fun t => PySem.W.Datum.toD (PySem.W.Tup.mk t)) ∧ ∀ (i : Nat) v, vs[i]? = some v → (t :: ts)[i]? = some (minT t ts) → Q v H
theorem vals_get : ∀ {vs : List V} {us : List Value} {i : Nat} {u : Value}, Vals vs us → us[i]? = some u → ∃ v, vs[i]? = some v ∧ RelV v u
  | _, _, _, _, .nil, e => by simp at e
  | _, _, 0, u, .cons r _, e => by cases e; exact ⟨_, rfl, r⟩
  | _, _, i + 1, u, .cons _ rs, e => by
    obtain ⟨v, h1, h2⟩ := vals_get rs (by simpa using e)
    exact ⟨v, by simpa using h1, h2⟩
theorem call_minT (hc : X.calm = true) (hu : X.A.units + 66 < cLine) : CallR X (.builtin "min") (rMinT X.K) := by
  intro pins s σ H xs us Q I r h
  obtain ⟨p, vs, t, ts, rfl, hs, hd, q⟩ := h
  obtain ⟨its, rv, hl, _⟩ := I.list hs
  rw [Vals.ref1 r]
  obtain ⟨as, ra⟩ := Dp.readsAll I _ vs its hd rv
  rw [List.map_cons] at ra
  have e1 : (ts.map fun t => PySem.W.Datum.toD (PySem.W.Tup.mk t)) = (ts.map PySem.W.Tup.mk).map PySem.W.Datum.toD := by
    rw [List.map_map]
    rfl
  rw [e1] at ra
  have hdp : PyData.depthAll (PySem.W.Datum.toD (PySem.W.Tup.mk t) :: (ts.map PySem.W.Tup.mk).map PySem.W.Datum.toD) ≤ 10 := Nat.le_trans (PySem.W.depthAll_map (PySem.W.Tup.mk t :: ts.map PySem.W.Tup.mk)) (by decide)
  refine PySem.W.min_list_data (I.ok.hd hc) hl.isList ra (PySem.W.alikeAll_datum (PySem.W.Tup.mk t :: ts.map PySem.W.Tup.mk)) (by omega) fun i u h' tk bs hi hr hk => ?_
  have hi' : its[i]? = some u := by simpa using hi
  obtain ⟨v, hv, rvu⟩ := vals_get rv hi'
  refine ⟨v, H, I.kept hk, rvu, q i v hv ?_⟩
  obtain ⟨p', bs', h3, h4⟩ := readsAll_get ra hi'
  rw [PySem.W.minD_map] at hr
  have h5 := PySem.W.reads_keeps hk h4
  have h6 : p' = PySem.W.Datum.toD (PySem.W.minOf (PySem.W.Tup.mk t) (ts.map PySem.W.Tup.mk)) := (PySem.SeqAt.plain_unique _ _ _ _ _ (PySem.W.Datum.plain _) hr h5).symm
  rw [h6, ← List.map_cons, List.getElem?_map] at h3
  obtain ⟨w, h7, h8⟩ := Option.map_eq_some_iff.mp h3
  have h9 : w = PySem.W.minOf (PySem.W.Tup.mk t) (ts.map PySem.W.Tup.mk) := by
    have := PySem.W.Datum.eqv w (PySem.W.minOf (PySem.W.Tup.mk t) (ts.map PySem.W.Tup.mk))
    rw [h8, PySem.W.Datum.eqv] at this
    simpa using this.symm
  rw [h9, ← List.map_cons, List.getElem?_map] at h7
  obtain ⟨z, h10, h11⟩ := Option.map_eq_some_iff.mp h7
  rw [h10]
  have : z = minT t ts := by
    rw [← minT_of, ← h11]
  rw [this]
def gMinT : O → M D := fun a c => match (rdlD c a).bind tisD with
  | some (t :: ts) => .ok (tupI (minT t ts)) c
  | _ => .no
theorem bMinT {K : PySem.W.Frag} (hc : X.calm = true) (hu : X.A.units + 66 < cLine) (hK : X.K = K := by rfl) : B1 X W (.builtin "min") (rMinT K) gMinT := by
  subst hK
  refine ⟨call_minT hc hu, fun Z F μ c σ H Q x a R rx p => ?_⟩
  unfold gMinT at p
  split at p
  · next t ts hn =>
    cases q : rdlD c a with
    | none => rw [q] at hn; cases hn
    | some ds =>
      rw [q] at hn
      obtain ⟨l, vs, rfl, h1, q1⟩ := rdl_at R rx q
      have e := tisD_eq hn
      subst e
      refine ⟨l, vs, t, ts, rfl, h1, dps_of R.ex q1 (pyDs_tups (t :: ts)), fun i v hv hi => ?_⟩
      obtain ⟨d, h2, h3⟩ := q1.getV hv
      rw [List.getElem?_map, hi] at h2
      cases h2
      exact p F μ H (Le.refl _ _) R _ h3
  · exact p.elim
end
end My

set_option Elab.async false
set_option linter.all false
set_option maxRecDepth 100000
set_option maxHeartbeats 4000000
/-! F14: what the top has written: classes; the end of a law, whatever the addresses. -/
namespace My
open PySem L2
theorem has_ofM {K : PySem.W.Frag} {C f : Addr} {m qual : Str} {st : Stmt} {ps : List Str} {od an : Option Addr} {sl : Array (Option Value)} {oc kV dc pm cd ct : Value}
    (b : ∀ (kV doc pm : Value) (an : Option Addr) (cdv ct : Value) (us : List Value), us.length = ps.length → bindArgs (PySem.W.fnOf m qual (defArgs st) (defBody st) (defScope st) .none kV doc pm an cdv ct) ⟨us, []⟩ = pure (ps.zip us))
    (a : PySem.W.findIn K (.ref C) m = some (some (.ref f))) (i : PySem.W.isFn K (.ref f) = true) (l : K.lookup f = some ⟨oc, od, .func (PySem.W.fnOf m qual (defArgs st) (defBody st) (defScope st) .none kV dc pm an cd ct), sl⟩) (c : PySem.W.codeIn K cd qual = true) (k : PySem.W.keepIn K (.ref f) = true) : HasM K C m qual st ps :=
  let F := fun_mk (st := st) l c k
  ⟨f, _, F, ⟨a, i, k⟩, b kV dc pm an cd ct⟩
theorem has_ofC {K : PySem.W.Frag} {h : Heap} {mg : Str → Option Value} {C f : Addr} {x qual : Str} {st : Stmt} {ps : List Str} {od an : Option Addr} {sl : Array (Option Value)} {oc kV dc pm cd ct : Value} (X : K.In h) (G : h.Ns mainGlobals mg)
    (b : ∀ (kV doc pm : Value) (an : Option Addr) (cdv ct : Value) (us : List Value), us.length = ps.length → bindArgs (PySem.W.fnOf "__init__" qual (defArgs st) (defBody st) (defScope st) .none kV doc pm an cdv ct) ⟨us, []⟩ = pure (ps.zip us))
    (aC : PySem.W.nsIn K mainGlobals x = some (some (.ref C))) (mk : PySem.W.makesIn K C = true) (kc : PySem.W.keepIn K (.ref C) = true)
    (a : PySem.W.findIn K (.ref C) "__init__" = some (some (.ref f))) (i : PySem.W.isFn K (.ref f) = true) (l : K.lookup f = some ⟨oc, od, .func (PySem.W.fnOf "__init__" qual (defArgs st) (defBody st) (defScope st) .none kV dc pm an cd ct), sl⟩) (c : PySem.W.codeIn K cd qual = true) (k : PySem.W.keepIn K (.ref f) = true) : HasC K mg x C qual st ps :=
  let F := fun_mk (st := st) l c k
  ⟨f, _, F, ⟨mk, a, i, kc⟩, PySem.W.mg_of X G aC, b kV dc pm an cd ct⟩
/-- the law's promise: a list of at most n whole numbers is handed in, True comes out -/
def spLaw (n : Nat) (K : PySem.W.Frag) : Sp := fun vs H Q _ => ∃ (a : Addr) (ns : List Int), vs = [.ref a] ∧ SqL K H a (ns.map V.int) ∧ ns.length ≤ n ∧ ∀ H', Q (.bl true) H'
theorem law_sp {K : PySem.W.Frag} {n : Nat} {g : G} (ht : ∀ ns : List Int, ns.length ≤ n → ∃ S, g [scr ns] [] = .ok (.v (.bl true)) S) : ∀ vs H Q E, spLaw n K vs H Q E → spG K g vs H Q E := by
  rintro vs H Q E ⟨a, ns, rfl, hS, hl, q⟩
  obtain ⟨S, e⟩ := ht ns hl
  refine ⟨fun _ => none, H, [], [], [scr ns], ?_, .cons (.scr hS (reps_ints ns)) .nil, ?_⟩
  · exact { ex := Same.refl H, exz := fun _ _ e => (by cases e), fz := fun _ _ e => (by cases e), len := rfl, slot := fun i x e => (by simp at e), own := fun i x e => (by simp at e), dis := fun i j a m m' e => (by simp at e), lm := rfl, sto := fun n a m e => (by simp at e), dst := fun i n a m e => (by simp at e), ndm := fun n k a e => (by simp at e) }
  · rw [e]
    intro v F' μ' H' _ _ r
    cases r
    exact q _
/-- the law's def, as the end wants it -/
theorem law_okS {P : Program} {w : World} {K : PySem.W.Frag} {mg : Str → Option Value} {fa : Addr} {x p : Str} {k n : Nat} {g : G} (ht : ∀ ns : List Int, ns.length ≤ n → ∃ S, g [scr ns] [] = .ok (.v (.bl true)) S) (hfa : mg x = some (.ref fa)) (d : ∃ f fd, mg x = some (.ref f) ∧ (∀ us : List Value, us.length = 1 → bindArgs fd ⟨us, []⟩ = pure ([p].zip us)) ∧ ∀ base : Heap, K.In base → base.Ns mainGlobals mg → FnOk P w K mg base (L2.CX P w) k f fd [p] (spG K g)) :
    ∃ fd : FuncData, (∀ (s : Shared) (v : Value), BindsTo s fd ⟨[v], []⟩ [(p, v)]) ∧ ∀ base : Heap, K.In base → base.Ns mainGlobals mg → FnOk P w K mg base (L2.CX P w) k fa fd [p] (spLaw n K) := by
  obtain ⟨f, fd, h1, h2, h3⟩ := d
  have e := hfa.symm.trans h1
  cases e
  exact ⟨fd, fun s v => .of_eq (h2 [v] rfl), fun base a b => (h3 base a b).imp (law_sp ht)⟩
def rngC (lo c : Int) (n : Nat) : List D := (List.range n).map fun k => .v (.int (lo + (k : Nat) * c))
theorem wk_rangeC {K : PySem.W.Frag} {F : Hp} {μ : List Addr} {lo c : Int} {n : Nat} : Wk K F μ (Itc lo c n) (rngC lo c n) where
  go := fun i H s hi => by
    have : i < n := by simpa [rngC] using hi
    exact this
  stop := fun i H s hi => by
    have : n ≤ i := by simpa [rngC] using hi
    exact this
  yld := fun i H x H' s hi ⟨e, y⟩ => by
    have hi' : i < n := by simpa [rngC] using hi
    refine ⟨.v (.int (lo + (i : Nat) * c)), ?_, .inl ⟨e, by rw [y]; exact .v _⟩⟩
    unfold rngC
    rw [List.getElem?_map, List.getElem?_range hi']
    rfl
def rng3X (ds : List D) : M (List D) := match ds with
  | [.v (.int i), .v (.int j), .v (.int c)] => if c ≠ 0 ∧ c.natAbs < 1073741824 ∧ Builtin.Range.small i j c = true ∧ Builtin.Range.rangeSize i j c = ((Builtin.Range.rangeSize i j c).toNat : Nat) then M.pure (rngC i c (Builtin.Range.rangeSize i j c).toNat) else M.no
  | _ => M.no
theorem id_range3 {X : Cx} {W : WX} {tg a b e : Expr} {ta : TA} {p pos : Pos} {da : M (List D)} (hg : Gl X "range") (hm : X.mg "range" = none) (ha : AD X W [a, b, e] ta da) (hs : starEach [a, b, e] X.env = (false, eval a X.env) :: starEach [b, e] X.env := by rfl) (hpl : (backTo pos (starEach [b, e] X.env)).any (·.1) = false := by rfl) :
    ID X W tg (.Call (.Name "range" p) [a, b, e] [] pos) (iRng3 ta) (M.bind da rng3X) :=
  ⟨pi_range3 hg hm ha.pa hs hpl, fun Z F μ c σ H P R p => ha.ev Z F μ c σ H _ R (p.bind.imp fun ds c1 F1 μ1 H1 l1 R1 p1 vs rs => by
    unfold rng3X at p1
    split at p1
    · next i j c =>
      split at p1
      · next hz =>
        cases rs with
        | cons r rs =>
          cases r
          cases rs with
          | cons r rs =>
            cases r
            cases rs with
            | cons r rs =>
              cases r
              cases rs
              exact ⟨i, j, c, _, rfl, hz, p1 F1 μ1 H1 (Le.refl _ _) R1 _ wk_rangeC⟩
      · exact p1.elim
    · exact p1.elim)⟩
theorem na_of {K : PySem.W.Frag} {C : Addr} {f : Str} (h : PySem.W.findIn K (.ref C) f = some none) : NoAttr K C f := h
theorem u66 {k : Nat} {A : Around} (r : Room k A) : A.units + 66 < cLine := by
  have := r.un
  omega
end My

set_option Elab.async false
set_option linter.all false
set_option maxRecDepth 100000
set_option maxHeartbeats 4000000
/-! F15: two readings of one text; texts; slices of texts and tuples; classes not told ahead. -/
namespace My
open PySem L2
/-- the first image that says something -/
def dElse {α : Type} (a b : M α) : M α := fun c => match a c with
  | .no => b c
  | r => r
section
variable {X : Cx} {W : WX} {e a b : Expr} {t t' ta tb : TE} {pos : Pos}
theorem pe_or (h : PE X e t) (h' : PE X e t') : PE X e (fun σ H Q => t σ H Q ∨ t' σ H Q) := ⟨fun pins s σ H Q I q => q.elim (h.run pins s σ H Q I) (h'.run pins s σ H Q I)⟩
theorem dd_or {d d' : M D} (h : DD X W e t d) (h' : DD X W e t' d') : DD X W e (fun σ H Q => t σ H Q ∨ t' σ H Q) (dElse d d') := ⟨pe_or h.pe h'.pe, fun Z F μ c σ H Q R p => by
  unfold dElse at p
  split at p
  · exact .inr (h'.ev Z F μ c σ H Q R p)
  · exact .inl (h.ev Z F μ c σ H Q R p)⟩
theorem ed_or2 {d d' : M O} (h : ED X W e t d) (h' : ED X W e t' d') : ED X W e (fun σ H Q => t σ H Q ∨ t' σ H Q) (dElse d d') := ⟨pe_or h.pe h'.pe, fun Z F μ c σ H Q R p => by
  unfold dElse at p
  split at p
  · exact .inr (h'.ev Z F μ c σ H Q R p)
  · exact .inl (h.ev Z F μ c σ H Q R p)⟩
/-! ### a field, whatever the class -/
def insA (c : Stt) : O → Option (Addr × List (Str × D))
  | .d (.loc n) => match c.S[n]? with
    | some (.ins C fs) => some (C, fs)
    | _ => none
  | _ => none
def dFldA (Cs : List Addr) (f : Str) (dob : M O) : M D := M.bind dob fun x c => match insA c x with
  | some (C, fs) => if C ∈ Cs then match fs.lookup f with
      | some y => .ok y c
      | none => .no
    else .no
  | none => .no
theorem insA_O {c : Stt} {x : O} {C : Addr} {fs : List (Str × D)} (h : insA c x = some (C, fs)) : insO c C x = some fs := by
  unfold insA at h
  split at h
  · next n =>
    split at h
    · next C' fs' hs =>
      cases h
      unfold insO insD
      dsimp only
      rw [hs]
      exact if_pos rfl
    · cases h
  · cases h
theorem dd_fldA {K : PySem.W.Frag} {Cs : List Addr} {f : Str} {to : TE} {o : Expr} {dob : M O} (cl : ∀ C ∈ Cs, Cls X.K C ∧ NoAttr X.K C f) (ho : ED X W o to dob) (hb : attributeBase o f X.env (eval o X.env) = eval o X.env := by rfl) (hK : X.K = K := by rfl) : DD X W (.Attribute o f pos) (tFld K to f) (dFldA Cs f dob) := by
  subst hK
  exact ⟨pe_fld ho.pe hb, fun Z F μ c σ H Q R p => ho.ev Z F μ c σ H _ R (p.bind.imp fun x c1 F1 μ1 H1 l1 R1 p1 v r => by
    split at p1
    · next C fs hfs =>
      split at p1
      · next hC =>
        split at p1
        · next y hy =>
          obtain ⟨a, dx, gs, n, rfl, rfl, hn, hs, ha, k, rs⟩ := ins_atO R1 r (insA_O hfs)
          obtain ⟨u, hu, ru⟩ := lookup_rep k rs hy
          exact ⟨a, C, dx, gs, u, rfl, ha, (cl C hC).1, (cl C hC).2, hu, p1 F1 μ1 H1 (Le.refl _ _) R1 _ ru⟩
        · exact p1.elim
      · exact p1.elim
    · exact p1.elim)⟩
/-! ### slices of texts and tuples -/
def dSlD (da : M O) (dl du : M (Option Int)) : M D := M.bind da fun o => M.bind dl fun lo => M.bind du fun hi c => match o with
  | .d (.v (.str z)) => if z.length ≤ 1000000 then .ok (.v (.str (cutS z lo hi))) c else .no
  | .d (.tup ds) => .ok (.tup (cutL ds lo hi)) c
  | _ => .no
theorem cut_whole {α : Type} (xs : List α) {lo hi : Option Int} (h : HT.sIx xs.length 0 lo = 0 ∧ HT.sIx xs.length xs.length hi = xs.length) : cutL xs lo hi = xs := by
  unfold cutL
  rw [h.1, h.2]
  simp
theorem dd_sl {K : PySem.W.Frag} {lo hi : Option Expr} {tl th : TO} {da : M O} {dl du : M (Option Int)} {p2 : Pos} (h : ED X W a ta da) (hl : OD X W lo tl dl) (hu : OD X W hi th du) (hK : X.K = K := by rfl) : DD X W (.Subscript a (.Slice lo hi none p2) pos) (tSl (fun x lo hi H Q => rSlS x lo hi H Q ∨ rSlA K x lo hi H Q) ta tl th) (dSlD da dl du) := by
  subst hK
  exact ⟨pe_slice (SlR.or sl_str sl_tupA) h.pe hl.po hu.po, fun Z F μ c σ H Q R p => h.ev Z F μ c σ H _ R (p.bind.imp fun o c1 F1 μ1 H1 l1 R1 p1 v1 r1 => hl.ev Z F1 μ1 c1 σ H1 _ R1 (p1.bind.imp fun l c2 F2 μ2 H2 l2 R2 p2 => hu.ev Z F2 μ2 c2 σ H2 _ R2 (p2.bind.imp fun u c3 F3 μ3 H3 l3 R3 p3 => by
    have r3 := (r1.mono l2).mono l3
    split at p3
    · next z =>
      split at p3
      · next hz =>
        cases r3 with
        | d r3 =>
          cases r3
          exact .inl ⟨z, rfl, small6 hz, p3 F3 μ3 H3 (Le.refl _ _) R3 _ (.v _)⟩
      · exact p3.elim
    · next ds =>
      cases r3 with
      | d r3 =>
        cases r3 with
        | tup hs rs =>
          refine .inr ⟨_, _, rfl, Same.seqT R3.ex hs, fun hw => ?_, fun _ q hq => ?_⟩
          · have e : cutL ds l u = ds := cut_whole ds (by rw [← rs.length]; exact hw)
            exact p3 F3 μ3 H3 (Le.refl _ _) R3 _ (by rw [e]; exact .tup hs rs)
          · obtain ⟨R4, l4⟩ := R3.new (o := .tup (cutV _ l u)) hq
            exact p3 _ _ _ l4 R4 _ (.tup (.of upd_same) (reps_cut (rs.mono l4) l u))
    · exact p3.elim)))⟩
/-! ### join -/
def strsO (c : Stt) (o : O) : Option (List Str) := (seqD c o).bind strsD
def dJoin (da db : M O) : M D := M.bind da fun x => M.bind db fun y c => match x, strsO c y with
  | .d (.v (.str a)), some ys => if (ys.map (·.length)).sum + ys.length * a.length ≤ 1000000 then .ok (.v (.str (Txt.join a ys))) c else .no
  | _, _ => .no
def rJoin (K : PySem.W.Frag) : V → List V → Hp → VK → Prop := fun x xs H Q => ∃ a p, ∃ ys : List Str, x = .str a ∧ xs = [.ref p] ∧ (SqL K H p (ys.map V.str) ∨ SqT K H p (ys.map V.str)) ∧ (ys.map (·.length)).sum + ys.length * a.length ≤ 16777216 ∧ Q (.str (Txt.join a ys)) H
def dIsStr (o : O) : Bool := match o with
  | .d (.v (.str _)) => true
  | _ => false
def dJoinS (da db : M O) : M D := M.bind da fun x c => if dIsStr x = true then M.bind db (fun y c => match x, strsO c y with
  | .d (.v (.str a)), some ys => if (ys.map (·.length)).sum + ys.length * a.length ≤ 1000000 then .ok (.v (.str (Txt.join a ys))) c else .no
  | _, _ => .no) c else .no
theorem dd_join {K : PySem.W.Frag} {da db : M O} {apos : Pos} (ha : ED X W a ta da) (hb : ED X W b tb db) (hs : starEach [b] X.env = [(false, eval b X.env)] := by rfl) (hbase : attributeBase a "join" X.env (eval a X.env) = eval a X.env := by rfl) (hline : (apos.endLine == pos.line) = true := by rfl) (hK : X.K = K := by rfl) :
    DD X W (.Call (.Attribute a "join" apos) [b] [] pos) (tM1 (rJoin K) ta tb) (dJoinS da db) := by
  subst hK
  exact ⟨pe_join ha.pe hb.pe hs hbase hline, fun Z F μ c σ H Q R p => ha.ev Z F μ c σ H _ R (p.bind.imp fun x c1 F1 μ1 H1 l1 R1 p1 v1 r1 => by
    split at p1
    · next hi =>
      have hx : ∃ z, x = .d (.v (.str z)) := by
        unfold dIsStr at hi
        split at hi
        · exact ⟨_, rfl⟩
        · cases hi
      obtain ⟨z, rfl⟩ := hx
      cases r1 with
      | d r1 =>
        cases r1
        refine ⟨⟨z, rfl⟩, hb.ev Z F1 μ1 c1 σ H1 _ R1 (p1.bind.imp fun y c2 F2 μ2 H2 l2 R2 p2 v2 r2 => ?_)⟩
        split at p2
        · next a ys e1 e2 =>
          cases e1
          split at p2
          · next hz =>
            unfold strsO at e2
            cases q : seqD c2 y with
            | none => rw [q] at e2; cases e2
            | some ds =>
              rw [q] at e2
              obtain ⟨l, vs, rfl, h1, rs⟩ := seq_at R2 r2 q
              have := strs_of rs e2
              subst this
              exact ⟨_, l, ys, rfl, rfl, h1, Nat.le_trans hz (by decide), p2 F2 μ2 H2 (Le.refl _ _) R2 _ (.v _)⟩
          · exact p2.elim
        · exact p2.elim
    · exact p1.elim)⟩
/-! ### f() -/
def dCall0 (g : G) : M D := fun c => match g [] c.S with
  | .ok d S => .ok d ⟨c.r, S⟩
  | _ => .no
theorem dd_fn0 {K : PySem.W.Frag} {k : Nat} {ps : List Str} {g : G} {x : Str} {p : Pos} (h : Okf X.prog X.w X.K X.mg X.base k x ps g) (hr : Room k X.A) (hg : Gl X x)
    (hdb : (x == ("__debug__" : Str)) = false := by decide) (hK : X.K = K := by rfl) :
    DD X W (.Call (.Name x p) [] [] pos) (tCall (spG K g) [] E00 tNil) (dCall0 g) := by
  subst hK
  obtain ⟨f, fd, F, hm, hk, hb⟩ := h
  refine ⟨pe_call0 F hr hg hm hk (.all hb) .nil passF hdb, fun Z F μ c σ H Q R p => ?_⟩
  exact sp_meth R .nil p
/-! ### isinstance, of an own class -/
def ownA (c : Stt) : D → Option Addr
  | .loc n => match c.S[n]? with
    | some (.ins C _) => some C
    | _ => none
  | _ => none
/-- what the top tells of classes: is C' of C -/
def gIsO (b : Bool) (C' : Addr) : D → M D := fun x c => match ownA c x with
  | some C => if C = C' then .ok (.v (.bl b)) c else .no
  | none => .no
structure ClsI (K : PySem.W.Frag) (C : Addr) : Prop where
  cl : Cls K C
  ha : PySem.W.findIn K (.ref C) "__class__" = some (some (.builtin "object.__class__"))
  hn : PySem.W.specialIn K (.builtin "object.__class__") "__get__" = some (some (.builtin "getset_descriptor.__get__"))
  htk : PySem.W.takesIn K (.builtin "object.__class__") = some true
  hm : PySem.W.mroIn K C (.type "object") = some true
theorem dd_isiO {K : PySem.W.Frag} {x : Str} {C C' : Addr} {b : Bool} {ta : TE} {p q : Pos} {dx : M D} (hg : Gl X "isinstance") (hm : X.mg "isinstance" = none) (hv : bootBuiltins "isinstance" = some (.builtin "isinstance")) (ha : DD X W a ta dx) (hg2 : Gl X x) (hm2 : X.mg x = some (.ref C)) (ci : ClsI X.K C') (hk : PySem.W.kitOne X.K (.ref C') (.ref C) = some b)
    (hs : starEach [a, .Name x q] X.env = (false, eval a X.env) :: starEach [.Name x q] X.env := by rfl) (hs2 : starEach [.Name x q] X.env = (false, eval (.Name x q) X.env) :: starEach [] X.env := by rfl) (hdb : (x == ("__debug__" : Str)) = false := by decide)
    (he : starEach [a, .Name x q] X.env = (false, eval a X.env) :: starEach [.Name x q] X.env := by rfl) (hpl : (backTo pos (starEach [.Name x q] X.env)).any (·.1) = false := by rfl) (hK : X.K = K := by rfl) :
    DD X W (.Call (.Name "isinstance" p) [a, .Name x q] [] pos) (tCB (rIsi K) (tCons ta (tCons (tC (.ref C)) tNil))) (M.bind dx (gIsO b C')) := by
  subst hK
  exact ⟨pe_callB call_isi hg hm hv (pa_cons ha.pe (pa_cons (pe_glob hg2 hm2 rfl hdb) pa_nil hs2) hs) (by decide) (by decide) he hpl, fun Z F μ c σ H Q R p => ha.ev Z F μ c σ H _ R (p.bind.imp fun x c1 F1 μ1 H1 l1 R1 p1 v1 r1 => by
    unfold gIsO at p1
    split at p1
    · next C2 hC =>
      split at p1
      · next e =>
        subst e
        have hi : ∃ fs, insD c1 C2 x = some fs := by
          unfold ownA at hC
          split at hC
          · next n =>
            split at hC
            · next C3 fs hs =>
              cases hC
              refine ⟨fs, ?_⟩
              unfold insD
              dsimp only
              rw [hs]
              exact if_pos rfl
            · cases hC
          · cases hC
        obtain ⟨fs, hfs⟩ := hi
        obtain ⟨a, dx, gs, n, rfl, rfl, hn, hs, hh, k, rs⟩ := ins_at R1 r1 hfs
        exact ⟨.ref a, .ref C, .ref C2, .ref C, b, rfl, .own C, .base (.ins hh ci.cl ci.ha ci.hn ci.htk ci.hm), hk, p1 F1 μ1 H1 (Le.refl _ _) R1 _ (.v _)⟩
      · exact p1.elim
    · exact p1.elim)⟩
end
end My

set_option Elab.async false
set_option linter.all false
set_option maxRecDepth 100000
set_option maxHeartbeats 4000000
/-! F16: methods and fields of objects whose class is one of some; a row taken apart. -/
namespace My
open PySem L2
section
variable {X : Cx} {W : WX} {o e : Expr} {t to te : TE} {pos apos : Pos} {dob : M O} {dv : M D} {es : List Expr} {tr : TA} {dr : M (List D)}
theorem pe_some {α : Type} {L : List α} {t : α → TE} (h : ∀ p ∈ L, PE X e (t p)) : PE X e (fun σ H Q => ∃ p, p ∈ L ∧ t p σ H Q) := ⟨fun pins s σ H Q I ⟨p, hp, q⟩ => (h p hp).run pins s σ H Q I q⟩
/-- o.m(..), by the class -/
def dMethL (L : List (Addr × G)) (m : Str) (dob : M O) (dr : M (List D)) : M D := fun c => match dob c with
  | .ok x c1 => match insA c1 x with
    | some p => match L.lookup p.1 with
      | some g => dMeth p.1 m g dob dr c
      | none => .no
    | none => .no
  | _ => .no
theorem lookup_mem {L : List (Addr × G)} {C : Addr} {g : G} (h : L.lookup C = some g) : (C, g) ∈ L := by
  induction L with
  | nil => cases h
  | cons p L ih =>
    obtain ⟨a, b⟩ := p
    rw [List.lookup_cons] at h
    cases q : C == a with
    | true =>
      rw [q] at h
      cases h
      rw [beq_iff_eq.mp q]
      exact List.mem_cons_self
    | false =>
      rw [q] at h
      exact List.mem_cons_of_mem _ (ih h)
theorem ev_methL {K : PySem.W.Frag} {L : List (Addr × G)} {m : Str} (ho : EvE K W to dob) (ha : EvA K W tr dr) : EvD K W (fun σ H Q => ∃ p : Addr × G, p ∈ L ∧ tMeth p.1 m (spG K p.2) [] E00 to tr σ H Q) (dMethL L m dob dr) := fun Z F μ c σ H Q R p => by
  unfold dMethL at p
  split at p
  · split at p
    · next q hq =>
      split at p
      · next g hg => exact ⟨(q.1, g), lookup_mem hg, ev_meth ho ha Z F μ c σ H Q R p⟩
      · exact p.elim
    · exact p.elim
  · exact p.elim
def OkmL (P : Program) (w : World) (K : PySem.W.Frag) (mg : Str → Option Value) (base : Heap) (k : Nat) (L : List (Addr × G)) (m : Str) (ps : List Str) : Prop := ∀ p ∈ L, Okm P w K mg base k p.1 m ps p.2 ∧ Cls K p.1
theorem dd_methL {K : PySem.W.Frag} {L : List (Addr × G)} {m : Str} {k : Nat} {ps : List Str} {pl : Sem Bool} (h : OkmL X.prog X.w X.K X.mg X.base k L m ps) (hr : Room k X.A) (ho : ED X W o to dob) (ha : AD X W (e :: es) tr dr)
    (hst : starEach (e :: es) X.env = (false, eval e X.env) :: starEach es X.env := by rfl) (hpl : (backTo pos (starEach es X.env)).any (·.1) = false := by rfl)
    (ht : eval (.Call (.Attribute o m apos) (e :: es) [] pos) X.env = (do
      let ov ← eval o X.env
      standAt apos.atName
      let (f, first) ← holding [ov] (getMethod ov m pl)
      callWith pos f first (backTo pos (starEach (e :: es) X.env)) (backToKw pos (keywordEach [] X.env))) := by rfl) (hK : X.K = K := by rfl) :
    DD X W (.Call (.Attribute o m apos) (e :: es) [] pos) (fun σ H Q => ∃ p : Addr × G, p ∈ L ∧ tMeth p.1 m (spG K p.2) [] E00 to tr σ H Q) (dMethL L m dob dr) := by
  subst hK
  exact ⟨pe_some fun p hp => (dd_meth (pl := pl) (h p hp).1 hr (h p hp).2 ho ha hst hpl ht).pe, ev_methL ho.ev ha.ev⟩
theorem dd_methL0 {K : PySem.W.Frag} {L : List (Addr × G)} {m : Str} {k : Nat} {ps : List Str} {pl : Sem Bool} (h : OkmL X.prog X.w X.K X.mg X.base k L m ps) (hr : Room k X.A) (ho : ED X W o to dob)
    (ht : eval (.Call (.Attribute o m apos) [] [] pos) X.env = (do
      let ov ← eval o X.env
      standAt apos.atName
      let (f, first) ← holding [ov] (getMethod ov m pl)
      callWith pos f first (backTo pos (starEach [] X.env)) (backToKw pos (keywordEach [] X.env))) := by rfl) (hK : X.K = K := by rfl) :
    DD X W (.Call (.Attribute o m apos) [] [] pos) (fun σ H Q => ∃ p : Addr × G, p ∈ L ∧ tMeth p.1 m (spG K p.2) [] E00 to tNil σ H Q) (dMethL L m dob dNil) := by
  subst hK
  exact ⟨pe_some fun p hp => (dd_meth0 (pl := pl) (h p hp).1 hr (h p hp).2 ho ht).pe, ev_methL ho.ev (ad_nil (X := X)).ev⟩
/-- o.f = e, whatever the class -/
def dSetFA (Cs : List Addr) (f : Str) (dv : M D) (dob : M O) : M Fl := M.bind dv fun y => M.bind dob fun x c => match x with
  | .d (.loc n) => match insA c (.d (.loc n)) with
    | some (C, fs) => if C ∈ Cs ∧ fs.length < 1000 then .ok .nx ⟨c.r, c.S.set n (.ins C (putFD f y fs))⟩ else .no
    | none => .no
  | _ => .no
theorem sd_fldA {K : PySem.W.Frag} {Cs : List Addr} {f : Str} {pos' : Pos} (cl : ∀ C ∈ Cs, Cls X.K C ∧ NoAttr X.K C f) (ho : ED X W o to dob) (hv : DD X W e te dv) (hs : swapsWith e (some (.Attribute o f pos')) pos.line X.env = pure false := by rfl) (hK : X.K = K := by rfl) : SD X W (.Assign [.Attribute o f pos'] e pos) (sFld K to te f) (dSetFA Cs f dv dob) := by
  subst hK
  exact ⟨ps_fld ho.pe hv.pe hs, fun Z F μ c σ H D R p => hv.ev Z F μ c σ H _ R (p.bind.imp fun y c1 F1 μ1 H1 l1 R1 p1 v r => ho.ev Z F1 μ1 c1 σ H1 _ R1 (p1.bind.imp fun x c2 F2 μ2 H2 l2 R2 p2 u ru => by
    split at p2
    · next n =>
      split at p2
      · next C fs hfs =>
        split at p2
        · next hz =>
          obtain ⟨a, dx, gs, n', e1, rfl, hn, hs, ha, k, rs⟩ := ins_atO R2 ru (insA_O hfs)
          cases e1
          obtain ⟨k', rs'⟩ := putF_rep (f := f) (r.mono l2) k rs
          have hl : gs.length < 1000 := by
            have : (gs.map (·.1)).length = (fs.map (·.1)).length := by rw [k]
            rw [List.length_map, List.length_map] at this
            omega
          exact ⟨a, C, dx, gs, rfl, ha, (cl C hz.1).1, (cl C hz.1).2, hl, p2 _ F2 μ2 _ (Le.refl _ _) (R2.put hs trivial hn (.ins k' rs'))⟩
        · exact p2.elim
      · exact p2.elim
    · exact p2.elim))⟩
/-! ### a list taken apart -/
def dUnlG (n : Nat) (dr : List D → M Unit) (x : D) : M Unit := fun c => match x with
  | .lst ds => if ds.length = n then dr ds c else .no
  | _ => .no
theorem gd_unl {K : PySem.W.Frag} {es : List Expr} {k n : Nat} {vs : List Nat} {g : TGs} {d : List D → M Unit} (hc : X.calm = true) (h : GDs X es vs g d) (hn : (assignEach es X.env).length = n := by rfl) (hst : (assignEach es X.env).findIdx? (·.1) = none := by rfl) (hK : X.K = K := by rfl) :
    GD X (.Tuple es k pos) vs (gUnl K n g) (dUnlG n d) := by
  subst hK
  exact ⟨pg_unl hc h.pg hn hst, fun Z F μ c σ H Q v x R r ⟨c', e, k⟩ => by
    unfold dUnlG at e
    split at e
    · next ds =>
      split at e
      · next hl =>
        cases r with
        | lst hs rs => exact ⟨_, _, rfl, .of (R.ex _ _ hs), by rw [rs.length]; exact hl, h.ev Z F μ c σ H Q _ _ R rs ⟨c', e, k⟩⟩
      · cases e
    · cases e⟩
end
end My

set_option Elab.async false
set_option linter.all false
set_option maxRecDepth 100000
set_option maxHeartbeats 4000000
/-! F17: what is never reached; dicts of the store; a base class's function by its class; pop of a place; is True. -/
namespace My
open PySem L2
section
variable {X : Cx} {W : WX} {e o a b i : Expr} {t to te ti ta tb : TE} {pos apos : Pos} {dob da db : M O} {dv di : M D} {es : List Expr} {tr : TA} {dr : M (List D)}
/-! ### never reached -/
theorem pe_nv : PE X e (fun _ _ _ => False) := ⟨fun _ _ _ _ _ _ h => h.elim⟩
theorem ed_nv : ED X W e (fun _ _ _ => False) (M.no) := ⟨pe_nv, fun _ _ _ _ _ _ _ _ p => p.elim⟩
theorem dd_nv : DD X W e (fun _ _ _ => False) (M.no) := ⟨pe_nv, fun _ _ _ _ _ _ _ _ p => p.elim⟩
theorem sd_nv {st : Stmt} : SD X W st (fun _ _ _ => False) (M.no) := ⟨⟨fun _ _ _ _ _ _ h => h.elim⟩, fun _ _ _ _ _ _ _ _ p => p.elim⟩
/-! ### dicts of the store -/
def dctD (c : Stt) : O → Option (List (Key × D))
  | .d (.loc n) => match c.S[n]? with
    | some (.dct kvs) => some kvs
    | _ => none
  | _ => none
def keyD : D → Option Key
  | .v (.int i) => some (.inl i)
  | .v (.str x) => some (.inr x)
  | _ => none
def valD (kvs : List (Key × D)) (k : Key) : Option D := (kvs.find? fun kv => decide (kv.1 = k)).map (·.2)
def putD (kvs : List (Key × D)) (k : Key) (v : D) : List (Key × D) :=
  if (kvs.any fun kv => decide (kv.1 = k)) = true then kvs.map (fun kv => if kv.1 = k then (kv.1, v) else kv) else kvs ++ [(k, v)]
theorem val_rep {K : PySem.W.Frag} {F : Hp} {μ : List Addr} {k : Key} {x : D} : ∀ {ds : List (Key × D)} {kvs : List (Key × V)}, kvs.map (·.1) = ds.map (·.1) → Reps K F μ (kvs.map (·.2)) (ds.map (·.2)) → valD ds k = some x → ∃ v, valV kvs k = some v ∧ Rep K F μ v x
  | [], _, _, _, e => by cases e
  | _ :: _, [], h, _, _ => by cases h
  | (f1, f2) :: ds, (a1, a2) :: kvs, h, r, e => by
    rw [List.map_cons, List.map_cons] at h r
    obtain ⟨h1, h2⟩ := List.cons.inj h
    replace h1 : a1 = f1 := h1
    subst h1
    cases r with
    | cons r1 r2 =>
      unfold valD at e
      unfold valV
      rw [List.find?_cons] at e ⊢
      by_cases q : a1 = k
      · simp only [q, decide_true] at e ⊢
        cases e
        exact ⟨_, rfl, r1⟩
      · simp only [q, decide_false] at e ⊢
        exact val_rep h2 r2 e
theorem val_none {k : Key} : ∀ {ds : List (Key × D)} {kvs : List (Key × V)}, kvs.map (·.1) = ds.map (·.1) → valD ds k = none → valV kvs k = none
  | [], [], _, _ => rfl
  | [], _ :: _, h, _ => by cases h
  | _ :: _, [], h, _ => by cases h
  | (f1, f2) :: ds, (a1, a2) :: kvs, h, e => by
    rw [List.map_cons, List.map_cons] at h
    obtain ⟨h1, h2⟩ := List.cons.inj h
    replace h1 : a1 = f1 := h1
    subst h1
    unfold valD at e
    unfold valV
    rw [List.find?_cons] at e ⊢
    by_cases q : a1 = k
    · simp only [q, decide_true] at e
      cases e
    · simp only [q, decide_false] at e ⊢
      exact val_none h2 e
theorem any_keys {k : Key} : ∀ {ds : List (Key × D)} {kvs : List (Key × V)}, kvs.map (·.1) = ds.map (·.1) → (kvs.any fun kv => decide (kv.1 = k)) = (ds.any fun kv => decide (kv.1 = k))
  | [], [], _ => rfl
  | [], _ :: _, h => by cases h
  | _ :: _, [], h => by cases h
  | (f1, f2) :: ds, (a1, a2) :: kvs, h => by
    rw [List.map_cons, List.map_cons] at h
    obtain ⟨h1, h2⟩ := List.cons.inj h
    replace h1 : a1 = f1 := h1
    subst h1
    rw [List.any_cons, List.any_cons, any_keys h2]
theorem put_map {K : PySem.W.Frag} {F : Hp} {μ : List Addr} {k : Key} {v : V} {x : D} (rv : Rep K F μ v x) : ∀ {ds : List (Key × D)} {kvs : List (Key × V)}, kvs.map (·.1) = ds.map (·.1) → Reps K F μ (kvs.map (·.2)) (ds.map (·.2)) →
    (kvs.map (fun kv => if kv.1 = k then (kv.1, v) else kv)).map (·.1) = (ds.map (fun kv => if kv.1 = k then (kv.1, x) else kv)).map (·.1) ∧ Reps K F μ ((kvs.map (fun kv => if kv.1 = k then (kv.1, v) else kv)).map (·.2)) ((ds.map (fun kv => if kv.1 = k then (kv.1, x) else kv)).map (·.2))
  | [], [], _, _ => ⟨rfl, .nil⟩
  | [], _ :: _, h, _ => by cases h
  | _ :: _, [], h, _ => by cases h
  | (f1, f2) :: ds, (a1, a2) :: kvs, h, r => by
    rw [List.map_cons, List.map_cons] at h r
    obtain ⟨h1, h2⟩ := List.cons.inj h
    replace h1 : a1 = f1 := h1
    subst h1
    cases r with
    | cons r1 r2 =>
      obtain ⟨e1, e2⟩ := put_map rv h2 r2
      by_cases q : a1 = k
      · simp only [List.map_cons, q, if_true]
        exact ⟨congrArg _ e1, .cons rv e2⟩
      · simp only [List.map_cons, q, if_false]
        exact ⟨congrArg _ e1, .cons r1 e2⟩
theorem put_rep {K : PySem.W.Frag} {F : Hp} {μ : List Addr} {k : Key} {v : V} {x : D} (rv : Rep K F μ v x) {ds : List (Key × D)} {kvs : List (Key × V)} (h : kvs.map (·.1) = ds.map (·.1)) (r : Reps K F μ (kvs.map (·.2)) (ds.map (·.2))) :
    (putK kvs k v).map (·.1) = (putD ds k x).map (·.1) ∧ Reps K F μ ((putK kvs k v).map (·.2)) ((putD ds k x).map (·.2)) := by
  unfold putK putD
  rw [any_keys h]
  split
  · exact put_map rv h r
  · simp only [List.map_append, List.map_cons, List.map_nil]
    exact ⟨by rw [h], r.append (.cons rv .nil)⟩
theorem dct_at {K : PySem.W.Frag} {Z F : Hp} {μ : List Addr} {c : Stt} {σ : St} {H : Hp} {v : V} {x : O} {ds : List (Key × D)} (h : Rel K Z F μ c σ H) (r : RepO K F μ σ v x) (e : dctD c x = some ds) :
    ∃ a kvs n, x = .d (.loc n) ∧ v = .ref a ∧ μ[n]? = some a ∧ c.S[n]? = some (.dct ds) ∧ H a = some (.dK kvs) ∧ kvs.map (·.1) = ds.map (·.1) ∧ Reps K F μ (kvs.map (·.2)) (ds.map (·.2)) := by
  cases r with
  | d r =>
    cases r with
    | loc hn =>
      unfold dctD at e
      dsimp only at e
      split at e
      · next ds' hs =>
        cases e
        obtain ⟨_, _, ⟨u, e1, e2⟩, _⟩ := h.sto _ _ _ hn hs
        cases e2 with
        | dct k r => exact ⟨_, _, _, rfl, rfl, hn, hs, e1, k, r⟩
      · cases e
    | _ => cases e
  | sl q => cases e
theorem key_at {K : PySem.W.Frag} {F : Hp} {μ : List Addr} {v : V} {x : D} {k : Key} (r : Rep K F μ v x) (e : keyD x = some k) : v = kV k := by
  cases r with
  | v => cases v <;> cases e <;> rfl
  | _ => cases e
/-- {} -/
def dDct : M D := fun c => .ok (.loc c.S.length) ⟨c.r, c.S ++ [.dct []]⟩
theorem dd_dct : DD X W (.Dict [] [] pos) tDNewK dDct := ⟨pe_dnewK, fun Z F μ c σ H Q R p q hq => by
  have nb := R.nob hq
  obtain ⟨R2, l2⟩ := (R.up (same_new (o := .dK []) hq)).push (m := .dct []) upd_same nb.f nb.z nb.no nb.nm (.dct rfl .nil)
  refine p F _ _ l2 R2 _ (.loc ?_)
  have : μ.length = c.S.length := R.lm
  rw [← this]
  simp⟩
/-- d[k] -/
def dDGet (dob : M O) (di : M D) : M D := M.bind dob fun x => M.bind di fun k c => match dctD c x, keyD k with
  | some kvs, some k => match valD kvs k with
    | some y => .ok y c
    | none => .no
  | _, _ => .no
theorem dd_dget (hu : X.A.units + 1 < cLine) (ho : ED X W o to dob) (hi : DD X W i ti di) (hs : NoSl i := by intro _ _; rfl) : DD X W (.Subscript o i pos) (tDGet to ti) (dDGet dob di) :=
  ⟨pe_dget hu ho.pe hi.pe hs, fun Z F μ c σ H Q R p => ho.ev Z F μ c σ H _ R (p.bind.imp fun x c1 F1 μ1 H1 l1 R1 p1 v r => hi.ev Z F1 μ1 c1 σ H1 _ R1 (p1.bind.imp fun k c2 F2 μ2 H2 l2 R2 p2 u ru => by
    split at p2
    · next kvs kk e1 e2 =>
      split at p2
      · next y hy =>
        obtain ⟨a, gs, n, rfl, rfl, hn, hs, ha, hk, rs⟩ := dct_at R2 (r.mono l2) e1
        obtain ⟨w, hw, rw'⟩ := val_rep hk rs hy
        have := key_at ru e2
        subst this
        have g := DGet.k (k := kk) ha
        rw [hw] at g
        exact ⟨a, w, rfl, g, p2 F2 μ2 H2 (Le.refl _ _) R2 _ rw'⟩
      · exact p2.elim
    · exact p2.elim))⟩
/-- d[k] = e -/
def dDPut (dv : M D) (dob : M O) (di : M D) : M Fl := M.bind dv fun y => M.bind dob fun x => M.bind di fun k c => match x with
  | .d (.loc n) => match dctD c (.d (.loc n)), keyD k with
    | some kvs, some k => if kvs.length < 1000000 then .ok .nx ⟨c.r, c.S.set n (.dct (putD kvs k y))⟩ else .no
    | _, _ => .no
  | _ => .no
theorem sd_dput {pos' : Pos} (hu : X.A.units + 1 < cLine) (ho : ED X W o to dob) (hi : DD X W i ti di) (hv : DD X W e te dv) (hs : swapsWith e (some (.Subscript o i pos')) pos.line X.env = pure false := by rfl) : SD X W (.Assign [.Subscript o i pos'] e pos) (sDPut to ti te) (dDPut dv dob di) :=
  ⟨ps_dput hu ho.pe hi.pe hv.pe hs, fun Z F μ c σ H D R p => hv.ev Z F μ c σ H _ R (p.bind.imp fun y c1 F1 μ1 H1 l1 R1 p1 v r => ho.ev Z F1 μ1 c1 σ H1 _ R1 (p1.bind.imp fun x c2 F2 μ2 H2 l2 R2 p2 u ru => hi.ev Z F2 μ2 c2 σ H2 _ R2 (p2.bind.imp fun k c3 F3 μ3 H3 l3 R3 p3 w rw' => by
    split at p3
    · next n =>
      split at p3
      · next kvs kk e1 e2 =>
        split at p3
        · next hz =>
          obtain ⟨a, gs, n', e3, rfl, hn, hs, ha, hk, rs⟩ := dct_at R3 (ru.mono l3) e1
          cases e3
          have := key_at rw' e2
          subst this
          obtain ⟨k', rs'⟩ := put_rep (k := kk) ((r.mono l2).mono l3) hk rs
          have hl : gs.length < sizeLine := by
            have h1 : (gs.map (·.1)).length = (kvs.map (·.1)).length := by rw [hk]
            rw [List.length_map, List.length_map] at h1
            rw [h1]
            exact lt6 hz
          exact ⟨a, _, rfl, DPut.k (k := kk) ha hl, p3 _ F3 μ3 _ (Le.refl _ _) (R3.put hs trivial hn (.dct k' rs'))⟩
        · exact p3.elim
      · exact p3.elim
    · exact p3.elim)))⟩
/-! ### C.m(self, ..), C a class told by its name -/
def Okb (P : Program) (w : World) (K : PySem.W.Frag) (mg : Str → Option Value) (base : Heap) (k : Nat) (x m : Str) (ps : List Str) (g : G) : Prop :=
  ∃ C f fd, mg x = some (.ref C) ∧ ClX.CRead K C (.type "type") ∧ PySem.W.findCls K (.ref C) (.type "type") m = some (.val (.ref f)) ∧ PySem.W.keepIn K (.ref f) = true ∧ FnOk P w K mg base (L2.CX P w) k f fd ps (spG K g) ∧ ∀ us : List Value, us.length = ps.length → bindArgs fd ⟨us, []⟩ = pure (ps.zip us)
def dBase (g : G) (dr : M (List D)) : M D := M.bind dr fun ds c => match g ds c.S with
  | .ok d S => .ok d ⟨c.r, S⟩
  | _ => .no
theorem getmethcf_ok {pins : List (Addr × Obj)} {σ : St} {H : Hp} {s : Shared} {C f : Addr} {mc : Value} {m : Str} {A : Around} {E : Value → Shared → Prop} {pl : Sem Bool} {Q : Value × List Value → Shared → Prop} (I : Inv X pins σ H s) (r : ClX.CRead X.K C mc) (k : PySem.W.findCls X.K (.ref C) mc m = some (.val (.ref f)))
    (h : ∀ s', Inv X pins σ H s' → Q (.ref f, []) s') : wpAny (model X.prog X.w) A (getMethod (.ref C) m pl) Q E s :=
  PySem.W.method_cls I.kIn r.ga (PySem.W.cls_value I.kIn r.rd k rfl (h _ (I.tok _)))
theorem dd_base {K : PySem.W.Frag} {k : Nat} {ps : List Str} {g : G} {x m : Str} {p : Pos} {pl : Sem Bool} (h : Okb X.prog X.w X.K X.mg X.base k x m ps g) (hr : Room k X.A) (hg : Gl X x) (ha : AD X W (e :: es) tr dr)
    (hdb : (x == ("__debug__" : Str)) = false := by decide) (hst : starEach (e :: es) X.env = (false, eval e X.env) :: starEach es X.env := by rfl) (hpl : (backTo pos (starEach es X.env)).any (·.1) = false := by rfl)
    (ht : eval (.Call (.Attribute (.Name x p) m apos) (e :: es) [] pos) X.env = (do
      let ov ← eval (.Name x p) X.env
      standAt apos.atName
      let (f, first) ← holding [ov] (getMethod ov m pl)
      callWith pos f first (backTo pos (starEach (e :: es) X.env)) (backToKw pos (keywordEach [] X.env))) := by rfl) (hK : X.K = K := by rfl) :
    DD X W (.Call (.Attribute (.Name x p) m apos) (e :: es) [] pos) (tCall (spG K g) [] E00 tr) (dBase g dr) := by
  subst hK
  obtain ⟨C, f, fd, hm, r, k1, kp, F, hb⟩ := h
  refine ⟨⟨fun pins s σ H Q I h => ?_⟩, fun Z F μ c σ H Q R p => ha.ev Z F μ c σ H _ R (p.bind.imp fun ds c1 F1 μ1 H1 l1 R1 p1 vs rs => by
    rw [List.append_nil]
    exact sp_meth R1 rs p1)⟩
  refine PySem.W.methodCall_KW (pl := pl) (thn ((pe_glob (X := X) (pos := p) (v := .ref C) hg hm rfl hdb).run pins s σ H (fun x H1 => x = .ref C ∧ tr σ H1 fun vs H2 => spG X.K g (vs ++ []) H2 Q E00) I ⟨rfl, h⟩) fun u s1 ⟨x, H1, I1, rx, ex, q⟩ => ?_) ht
  subst ex
  · obtain rfl : u = Value.ref C := rx
    refine getmethcf_ok I1 r k1 fun s2 I2 => ?_
    refine PySem.W.callWith_K (first := []) (h₀ := X.base) I.ok.mod.kin kp (thn (ha.pa.run pos pins s2 σ H1 _ I2 q) fun us s3 ⟨vs, H2, I3, r3, q2⟩ => ⟨I3.kIn, ?_⟩) hst hpl
    exact run_fn (us := us) F hr (.all hb) .nil passF I3 r3 q2
end
end My

set_option Elab.async false
set_option linter.all false
set_option maxRecDepth 100000
set_option maxHeartbeats 4000000
/-! F18: the tables of classes. -/
namespace My
open PySem L2
theorem u1 {k : Nat} {A : Around} (r : Room k A) : A.units + 1 < cLine := by
  have := r.un
  omega
section
variable {P : Program} {w : World} {K : PySem.W.Frag} {mg : Str → Option Value} {base : Heap} {j k : Nat} {C : Addr} {x m qual : Str} {st : Stmt} {ps : List Str} {g : G}
theorem okm_of (h : HasM K C m qual st ps) (hjk : j ≤ k) (F : ∀ {f : Addr} {fd : FuncData}, Fun K m qual st f fd → FnOk P w K mg base (L2.CX P w) j f fd ps (spG K g)) : Okm P w K mg base k C m ps g := by
  obtain ⟨f, fd, Fn, hm, hb⟩ := h
  exact ⟨f, fd, hm, (F Fn).mono hjk, hb⟩
theorem okc_of (h : HasC K mg x C qual st ps) (hjk : j ≤ k) (F : ∀ {f : Addr} {fd : FuncData}, Fun K "__init__" qual st f fd → FnOk P w K mg base (L2.CX P w) j f fd ps (spG K g)) : Okc P w K mg base k x C ps g := by
  obtain ⟨f, fd, Fn, hm, hg, hb⟩ := h
  exact ⟨f, fd, hm, hg, (F Fn).mono hjk, hb⟩
/-- where a class's function stands -/
def HasB (K : PySem.W.Frag) (mg : Str → Option Value) (x m qual : Str) (st : Stmt) (ps : List Str) : Prop := ∃ C f fd, Fun K m qual st f fd ∧ mg x = some (.ref C) ∧ ClX.CRead K C (.type "type") ∧ PySem.W.findCls K (.ref C) (.type "type") m = some (.val (.ref f)) ∧ ∀ us : List Value, us.length = ps.length → bindArgs fd ⟨us, []⟩ = pure (ps.zip us)
theorem okb_of (h : HasB K mg x m qual st ps) (hjk : j ≤ k) (F : ∀ {f : Addr} {fd : FuncData}, Fun K m qual st f fd → FnOk P w K mg base (L2.CX P w) j f fd ps (spG K g)) : Okb P w K mg base k x m ps g := by
  obtain ⟨C, f, fd, Fn, hm, r, k1, hb⟩ := h
  exact ⟨C, f, fd, hm, r, k1, Fn.kp, (F Fn).mono hjk, hb⟩
theorem has_ofB {h : Heap} {C f : Addr} {od an : Option Addr} {sl : Array (Option Value)} {oc kV dc pm cd ct : Value} (X : K.In h) (G : h.Ns mainGlobals mg)
    (b : ∀ (kV doc pm : Value) (an : Option Addr) (cdv ct : Value) (us : List Value), us.length = ps.length → bindArgs (PySem.W.fnOf m qual (defArgs st) (defBody st) (defScope st) .none kV doc pm an cdv ct) ⟨us, []⟩ = pure (ps.zip us))
    (aC : PySem.W.nsIn K mainGlobals x = some (some (.ref C))) (r1 : PySem.W.readsIn K C (.type "type") = true) (r2 : PySem.W.specialIn K (.ref C) "__getattribute__" = some (some (.builtin "type.__getattribute__")))
    (a : PySem.W.findCls K (.ref C) (.type "type") m = some (.val (.ref f))) (l : K.lookup f = some ⟨oc, od, .func (PySem.W.fnOf m qual (defArgs st) (defBody st) (defScope st) .none kV dc pm an cd ct), sl⟩) (c : PySem.W.codeIn K cd qual = true) (k : PySem.W.keepIn K (.ref f) = true) : HasB K mg x m qual st ps :=
  let F := fun_mk (st := st) l c k
  ⟨C, f, _, F, PySem.W.mg_of X G aC, ⟨r1, r2⟩, a, b kV dc pm an cd ct⟩
end
/-! ### is True, is False -/
section
variable {X : Cx} {W : WX}
def gIsB : O → O → M D := fun a b c => match a, b with
  | .d (.v (.bl x)), .d (.v (.bl y)) => .ok (.v (.bl (decide (x = y)))) c
  | _, _ => .no
def gNotB : O → O → M D := fun a b c => match a, b with
  | .d (.v (.bl x)), .d (.v (.bl y)) => .ok (.v (.bl (!decide (x = y)))) c
  | _, _ => .no
theorem cIsB : CmpR X W .Is rIsB gIsB := ⟨op_isBl, fun Z F μ c σ H Q x y a b R rx ry p => by
  unfold gIsB at p
  split at p
  · cases rx with
    | d rx =>
      cases ry with
      | d ry =>
        cases rx
        cases ry
        exact ⟨_, _, rfl, rfl, p F μ H (Le.refl _ _) R _ (.v _)⟩
  · exact p.elim⟩
theorem cNotB : CmpR X W .IsNot rNotB gNotB := ⟨op_notBl, fun Z F μ c σ H Q x y a b R rx ry p => by
  unfold gNotB at p
  split at p
  · cases rx with
    | d rx =>
      cases ry with
      | d ry =>
        cases rx
        cases ry
        exact ⟨_, _, rfl, rfl, p F μ H (Le.refl _ _) R _ (.v _)⟩
  · exact p.elim⟩
end
/-! ### isinstance, lists and dicts of the store too -/
def tagS (c : Stt) : D → Option String
  | .loc n => match c.S[n]? with
    | some (.lst _) => some "list"
    | some (.dct _) => some "dict"
    | _ => none
  | x => tagD x
theorem ty_ofS {K : PySem.W.Frag} {Z F : Hp} {μ : List Addr} {c : Stt} {σ : St} {H : Hp} {v : V} {d : D} {t : String} (R : Rel K Z F μ c σ H) (r : Rep K F μ v d) (e : tagS c d = some t) : TyX K H v (.type t) := by
  cases r with
  | loc hn =>
    unfold tagS at e
    dsimp only at e
    split at e
    · next ds hs =>
      cases e
      obtain ⟨_, _, ⟨u, e1, e2⟩, _⟩ := R.sto _ _ _ hn hs
      cases e2
      exact .base (.lst e1)
    · next ds hs =>
      cases e
      obtain ⟨_, _, ⟨u, e1, e2⟩, _⟩ := R.sto _ _ _ hn hs
      cases e2
      exact .base (.dK e1)
    · cases e
  | v => exact ty_of (μ := μ) R.ex (.v _) e
  | tup a b => exact ty_of R.ex (.tup a b) e
  | lst a b => exact ty_of R.ex (.lst a b) e
  | scr a b => exact ty_of R.ex (.scr a b) e
  | dct a b d => exact ty_of R.ex (.dct a b d) e
  | exn0 => cases e
  | exn1 _ _ => cases e
  | ins a b d => exact ty_of R.ex (.ins a b d) e
def gIsiS (cl : String) : D → M D := fun x c => match (tagS c x).bind fun t => isiT t cl with
  | some b => .ok (.v (.bl b)) c
  | none => .no
theorem dd_isiS {X : Cx} {W : WX} {a : Expr} {ta : TE} {pos : Pos} {K : PySem.W.Frag} {x : Str} {cl : String} {p q : Pos} {dx : M D} (hg : Gl X "isinstance") (hm : X.mg "isinstance" = none) (hv : bootBuiltins "isinstance" = some (.builtin "isinstance")) (ha : DD X W a ta dx) (hg2 : Gl X x) (hm2 : X.mg x = none) (hv2 : bootBuiltins x = some (.type cl))
    (hs : starEach [a, .Name x q] X.env = (false, eval a X.env) :: starEach [.Name x q] X.env := by rfl) (hs2 : starEach [.Name x q] X.env = (false, eval (.Name x q) X.env) :: starEach [] X.env := by rfl) (hn : x ≠ "__name__" := by decide) (hdb : (x == ("__debug__" : Str)) = false := by decide)
    (he : starEach [a, .Name x q] X.env = (false, eval a X.env) :: starEach [.Name x q] X.env := by rfl) (hpl : (backTo pos (starEach [.Name x q] X.env)).any (·.1) = false := by rfl) (hK : X.K = K := by rfl) :
    DD X W (.Call (.Name "isinstance" p) [a, .Name x q] [] pos) (tCB (rIsi K) (tCons ta (tCons (tC (.ty cl)) tNil))) (M.bind dx (gIsiS cl)) := by
  subst hK
  exact ⟨(dd_isi hg hm hv ha hg2 hm2 hv2 hs hs2 hn hdb he hpl).pe, fun Z F μ c σ H Q R p => ha.ev Z F μ c σ H _ R (p.bind.imp fun x c1 F1 μ1 H1 l1 R1 p1 v1 r1 => by
    unfold gIsiS at p1
    split at p1
    · next b hb =>
      cases ht : tagS c1 x with
      | none => rw [ht] at hb; cases hb
      | some t =>
        rw [ht] at hb
        exact ⟨v1, .ty cl, .type t, .type cl, b, rfl, .ty cl, ty_ofS R1 r1 ht, isi_kit hb, p1 F1 μ1 H1 (Le.refl _ _) R1 _ (.v _)⟩
    · exact p1.elim)⟩
/-! ### o.pop(i) -/
section
variable {X : Cx} {W : WX} {e o : Expr} {te to : TE} {pos apos : Pos} {dob : M O} {de : M D}
def dPopAt (dob : M O) (de : M D) : M D := M.bind dob fun o c => match mutD c o with
  | some _ => M.bind de (fun x c => match x, mutD c o with
      | .v (.int i), some ds => if -(2 ^ 63) ≤ i ∧ i.toNat < 2 ^ 63 then match seqIndex? i ds.length with
          | some k => match ds[k]? with
            | some y => .ok y (putL o (ds.eraseIdx k) c)
            | none => .no
          | none => .no
        else .no
      | _, _ => .no) c
  | none => .no
theorem dd_popAt {K : PySem.W.Frag} (ho : ED X W o to dob) (he : DD X W e te de) (hbase : attributeBase o "pop" X.env (eval o X.env) = eval o X.env := by rfl)
    (hfew : ((backTo pos (starEach [e] X.env)).all (fun x => !x.1) && (backToKw pos (keywordEach [] X.env)).all (fun x => x.1.isSome)
      && decide (([e] : List Expr).length + ([] : List Keyword).length + (if ([] : List Keyword).isEmpty then 0 else 1) < 30)) = true := by rfl)
    (hline : (apos.endLine == pos.line) = true := by rfl) (hs : starEach [e] X.env = (false, eval e X.env) :: starEach [] X.env := by rfl) (hplain : (backTo pos (starEach [] X.env)).any (·.1) = false := by rfl)
    (hs2 : starEach [e] X.env = (false, eval e X.env) :: starEach [] X.env := by rfl) (hK : X.K = K := by rfl) :
    DD X W (.Call (.Attribute o "pop" apos) [e] [] pos) (tBM K "list" rPopAt to (tCons te tNil)) (dPopAt dob de) := by
  subst hK
  exact ⟨pe_bm PySem.F.plainAttrs_list PySem.F.slot_list_pop PySem.F.type_list_pop mt_popAt ho.pe (pa_cons he.pe pa_nil hs2) hbase hfew hline hs hplain, fun Z F μ c σ H Q R p => ho.ev Z F μ c σ H _ R (p.bind.imp fun oo c1 F1 μ1 H1 l1 R1 p1 v1 r1 => by
    split at p1
    · next ds0 hs0 =>
      obtain ⟨a0, vs0, rfl, h0, _, _⟩ := mut_at R1 r1 hs0
      refine ⟨.inl ⟨rfl, _, .of h0⟩, he.ev Z F1 μ1 c1 σ H1 _ R1 (p1.bind.imp fun x c2 F2 μ2 H2 l2 R2 p2 v2 r2 => ?_)⟩
      split at p2
      · next i ds hs =>
        split at p2
        · next hz =>
          split at p2
          · next k hk =>
            split at p2
            · next y hy =>
              obtain ⟨a2, vs2, e2, h3, rs, kk⟩ := mut_at R2 (r1.mono l2) hs
              cases e2
              cases r2
              obtain ⟨u, hu, ru⟩ := rs.get hy
              exact ⟨_, vs2, i, k, u, rfl, rfl, h3, hz.1, by omega, by rw [rs.length]; exact hk, hu, p2 F2 μ2 _ (Le.refl _ _) (kk _ _ (Reps.eraseIdx k rs)) _ ru⟩
            · exact p2.elim
          · exact p2.elim
        · exact p2.elim
      · exact p2.elim
    · exact p1.elim)⟩
end
end My

set_option Elab.async false
set_option linter.all false
set_option maxRecDepth 100000
set_option maxHeartbeats 4000000
/-! F19: reckoning: guarded walks, rows of numbers in the store. -/
namespace My
open PySem L2
theorem itLG_map {n : Nat} {es : List D} {dg : D → M Unit} {dt : M Bool} {de : M D} {vs : List Nat} {r0 : List Slot} {w : List Slot} {S : List Cell} {p : D → Bool} {f : D → D} (hS : S[n]? = some (.lst es)) : ∀ (ds acc : List D) (c : Stt), wipeD c.r vs = w → c.S = S → acc.length + ds.length ≤ 1000000 →
    (∀ d ∈ ds, ∃ c1, dg d ⟨w, S⟩ = .ok () c1 ∧ ∃ c2, dt c1 = .ok (p d) c2 ∧ wipeD c2.r vs = w ∧ c2.S = S ∧ (p d = true → ∃ c3, de c2 = .ok (f d) c3 ∧ wipeD c3.r vs = w ∧ c3.S = S)) →
    itLG n es dg dt de vs r0 ds acc c = .ok (acc ++ (ds.filter p).map f) ⟨w, S⟩
  | [], acc, c, hw, hc, _, _ => by
    unfold itLG
    rw [hc, if_pos hS, hw]
    simp
  | d :: r, acc, c, hw, hc, hz, t => by
    obtain ⟨c1, e1, c2, e2, w2, s2, k⟩ := t d List.mem_cons_self
    unfold itLG
    rw [hc, if_pos hS]
    unfold M.bind M.ne
    rw [hw, e1]
    dsimp only
    rw [e2]
    dsimp only
    have hz' : acc.length < 1000000 := by simp at hz; omega
    cases q : p d with
    | false =>
      rw [if_neg Bool.false_ne_true]
      rw [itLG_map hS r acc c2 w2 s2 (by simp at hz ⊢; omega) fun d' h => t d' (List.mem_cons_of_mem _ h)]
      rw [List.filter_cons, q]
      rfl
    | true =>
      obtain ⟨c3, e3, w3, s3⟩ := k q
      rw [if_pos rfl, e3]
      dsimp only
      rw [if_pos hz']
      rw [itLG_map hS r (acc ++ [f d]) c3 w3 s3 (by simp at hz ⊢; omega) fun d' h => t d' (List.mem_cons_of_mem _ h)]
      rw [List.filter_cons, q]
      simp
theorem firstEq_int {k : Int} : ∀ {ms : List Int}, k ∈ ms → ∃ j, firstEq (.int k) (ms.map PyData.int) = some j ∧ ms.eraseIdx j = ms.erase k
  | [], h => by simp at h
  | m :: ms, h => by
    have ev : PyData.eqv (.int m) (.int k) = decide (m = k) := PySem.W.Datum.eqv m k
    rw [List.map_cons]
    unfold firstEq
    rw [ev]
    by_cases e : m = k
    · subst e
      refine ⟨0, by rw [if_pos (by simp)], ?_⟩
      rw [List.erase_cons_head]
      rfl
    · have ht : k ∈ ms := by
        rcases List.mem_cons.mp h with q | q
        · exact absurd q.symm e
        · exact q
      obtain ⟨j, h1, h2⟩ := firstEq_int ht
      refine ⟨j + 1, ?_, ?_⟩
      · rw [if_neg (by simpa using e), h1]
        rfl
      · rw [List.erase_cons_tail (by simpa using e), ← h2]
        rfl
theorem eraseIdx_mapI {α β : Type} (f : α → β) : ∀ (l : List α) (j : Nat), (l.map f).eraseIdx j = (l.eraseIdx j).map f
  | [], j => by rw [List.map_nil, List.eraseIdx_nil, List.eraseIdx_nil, List.map_nil]
  | a :: l, 0 => rfl
  | a :: l, j + 1 => congrArg (f a :: ·) (eraseIdx_mapI f l j)
theorem rem_int {k : Int} {ms : List Int} (h : k ∈ ms) : ∃ j, firstEq (.int k) (ms.map PyData.int) = some j ∧ (ms.map I).eraseIdx j = (ms.erase k).map I := by
  obtain ⟨j, h1, h2⟩ := firstEq_int h
  exact ⟨j, h1, by rw [eraseIdx_mapI, h2]⟩
theorem pyO_int {c : Stt} {k : Int} : pyO c (.d (.v (.int k))) = some (.int k) := rfl
theorem app_int (ms : List Int) (k : Int) : ms.map I ++ [D.v (V.int k)] = (ms ++ [k]).map I := by
  rw [List.map_append]
  rfl
theorem tl_get (T : List Cell) (x : Cell) : (T ++ [x])[T.length]? = some x := by simp
theorem tl_set (T : List Cell) (x y : Cell) : (T ++ [x]).set T.length y = T ++ [y] := by
  rw [List.set_append_right _ _ (Nat.le_refl _), Nat.sub_self]
  rfl
theorem tl_get2 (T : List Cell) (x y : Cell) : (T ++ [x, y])[T.length]? = some x := by simp
theorem tl_set2 (T : List Cell) (x y z : Cell) : (T ++ [x, y]).set T.length z = T ++ [z, y] := by
  rw [List.set_append_right _ _ (Nat.le_refl _), Nat.sub_self]
  rfl
theorem st_get {T : List Cell} {q : Nat} {y : Cell} (h : T[q]? = some y) (x : Cell) : (T.set q x)[q]? = some x := by
  rw [List.getElem?_set, if_pos rfl, if_pos (List.getElem?_eq_some_iff.mp h).1]
theorem gEq_locl {neg : Bool} {m : Nat} {b : O} {c : Stt} {ds : List D} (h : c.S[m]? = some (.lst ds)) : gEq neg (.d (.loc m)) b c = gEq neg (.d (.lst ds)) b c := by
  have e : pyO c (.d (.loc m)) = pyO c (.d (.lst ds)) := by
    show (match c.S[m]? with | some (.lst ds) => (pyDs ds).map PyData.list | _ => none) = pyD (.lst ds)
    rw [h]
    unfold pyD
    rfl
  unfold gEq
  rw [e]
theorem gEq_locr {neg : Bool} {m : Nat} {a : O} {c : Stt} {ds : List D} (h : c.S[m]? = some (.lst ds)) : gEq neg a (.d (.loc m)) c = gEq neg a (.d (.lst ds)) c := by
  have e : pyO c (.d (.loc m)) = pyO c (.d (.lst ds)) := by
    show (match c.S[m]? with | some (.lst ds) => (pyDs ds).map PyData.list | _ => none) = pyD (.lst ds)
    rw [h]
    unfold pyD
    rfl
  unfold gEq
  rw [e]
theorem gEq_selfD {neg : Bool} {x : D} {p : PyData} {c : Stt} (h : pyO c (.d x) = some p) (hz : p.depth ≤ 64) : gEq neg (.d x) (.d x) c = .ok (.v (.bl (!neg))) c := by
  rw [gEq_of h h hz (PySem.SeqAt.eqv_refl_plain p (pyO_plain h))]
  cases neg <;> rfl
theorem gAll_true (Y : List D) (c : Stt) : gAll (.d (.lst (Y.map fun _ => .v (.bl true)))) c = .ok (.v (.bl true)) c := by
  have h : ∀ Y : List D, blsD (Y.map fun _ => D.v (V.bl true)) = some (Y.map fun _ => true) := fun Y => by
    induction Y with
    | nil => rfl
    | cons y Y ih =>
      show (blsD (Y.map fun _ => D.v (V.bl true))).map (true :: ·) = _
      rw [ih]
      rfl
  show (match (some (Y.map fun _ => D.v (V.bl true))).bind blsD with | some bs => R.ok (D.v (V.bl (bs.all id))) c | none => .no) = _
  rw [Option.bind_some, h]
  have : (Y.map fun _ => true).all id = true := by
    rw [List.all_map]
    simp
  dsimp only
  rw [this]
end My
namespace My
open PySem L2
/-! ### texts of single signs -/
def ch (k : Nat) : Str := ⟨#[k]⟩
theorem strsD_map : ∀ ys : List Str, strsD (ys.map fun y => D.v (V.str y)) = some ys
  | [] => rfl
  | y :: ys => by
    show (strsD (ys.map fun y => D.v (V.str y))).map (y :: ·) = _
    rw [strsD_map ys]
    rfl
theorem join_ch (l : List Nat) : (Txt.join ("" : Str) (l.map ch)).cps.toList = l := by
  have h0 : (("" : Str)).cps.toList = [] := rfl
  have key : ∀ l : List Nat, (Str.join ("" : Str) (l.map ch)).cps.toList = l := fun l => by
    induction l with
    | nil => rfl
    | cons a r ih =>
      cases r with
      | nil => rfl
      | cons b r =>
        have e : Str.join ("" : Str) ((a :: b :: r).map ch) = ch a ++ ("" : Str) ++ Str.join ("" : Str) ((b :: r).map ch) := rfl
        rw [e]
        show (((ch a).cps ++ (("" : Str)).cps) ++ (Str.join ("" : Str) ((b :: r).map ch)).cps).toList = _
        rw [Array.toList_append, Array.toList_append, ih, h0]
        rfl
  have e : Txt.join ("" : Str) (l.map ch) = Str.join ("" : Str) (l.map ch) := TL.join_eq _ _
  rw [e]
  exact key l
theorem ch_len (l : List Nat) : ((l.map ch).map (·.length)).sum = l.length := by
  induction l with
  | nil => rfl
  | cons a r ih =>
    rw [List.map_cons, List.map_cons, List.sum_cons, ih, List.length_cons]
    show 1 + r.length = _
    omega
theorem qzjv : (("qzjv" : Str)).cps.toList = [113, 122, 106, 118] := rfl
theorem abc26 : (("abcdefghijklmnopqrstuvwxyz" : Str)).cps.toList = (List.range 26).map (fun k => 97 + k) := rfl
end My

set_option Elab.async false
set_option linter.all false
set_option maxRecDepth 100000
set_option maxHeartbeats 4000000
/-! F20: dicts that are walked; dict(pairs); d[k] op= e, xs[i] op= e. -/
namespace My
open PySem L2
/-! ### a dict while a loop walks it -/
def dropF (F : Hp) (a : Addr) : Hp := fun b => if b = a then none else F b
theorem dropF_ne {F : Hp} {a b : Addr} (h : b ≠ a) : dropF F a b = F b := if_neg h
section
variable {K : PySem.W.Frag} {Z F F' : Hp} {μ μ' : List Addr} {a : Addr} {ob : Obj} {kvs : List (Key × V)}
theorem seqT_drop {b : Addr} {vs : List V} (hF : F a = some (.frz ob (.dK kvs))) (h : SqT K F b vs) : SqT K (dropF F a) b vs := by
  rcases h with (h | ⟨o, h⟩) | h
  · exact .inl (.inl (by rw [dropF_ne (fun e => by rw [e, hF] at h; cases h)]; exact h))
  · exact .inl (.inr ⟨o, by rw [dropF_ne (fun e => by rw [e, hF] at h; cases h)]; exact h⟩)
  · exact .inr h
theorem seqL_drop {b : Addr} {vs : List V} (hF : F a = some (.frz ob (.dK kvs))) (h : SqL K F b vs) : SqL K (dropF F a) b vs := by
  rcases h with (h | ⟨o, h⟩) | h
  · exact .inl (.inl (by rw [dropF_ne (fun e => by rw [e, hF] at h; cases h)]; exact h))
  · exact .inl (.inr ⟨o, by rw [dropF_ne (fun e => by rw [e, hF] at h; cases h)]; exact h⟩)
  · exact .inr h
mutual
theorem Rep.drop (hF : F a = some (.frz ob (.dK kvs))) : ∀ {v : V} {d : D}, Rep K F μ v d → Rep K (dropF F a) μ v d
  | _, _, .v x => .v x
  | _, _, .tup h r => .tup (seqT_drop hF h) (Reps.dropA hF r)
  | _, _, .lst h r => .lst (by rw [dropF_ne (fun e => by rw [e, hF] at h; cases h)]; exact h) (Reps.dropA hF r)
  | _, _, .scr h r => .scr (seqL_drop hF h) (Reps.dropA hF r)
  | _, _, .dct h k r => .dct (by rw [dropF_ne (fun e => by rw [e, hF] at h; cases h)]; exact h) k (Reps.dropA hF r)
  | _, _, .ins h k r => .ins (by rw [dropF_ne (fun e => by rw [e, hF] at h; cases h)]; exact h) k (Reps.dropA hF r)
  | _, _, .loc h => .loc h
  | _, _, .exn0 => .exn0
  | _, _, .exn1 h r => .exn1 (by rw [dropF_ne (fun e => by rw [e, hF] at h; cases h)]; exact h) (Rep.drop hF r)
theorem Reps.dropA (hF : F a = some (.frz ob (.dK kvs))) : ∀ {vs : List V} {ds : List D}, Reps K F μ vs ds → Reps K (dropF F a) μ vs ds
  | _, _, .nil => .nil
  | _, _, .cons h r => .cons (Rep.drop hF h) (Reps.dropA hF r)
end
theorem CellO.drop (hF : F a = some (.frz ob (.dK kvs))) {o : HO} {m : Cell} (h : CellO K F μ o m) : CellO K (dropF F a) μ o m := by
  cases h with
  | lst r => exact .lst (r.dropA hF)
  | dct k r => exact .dct k (r.dropA hF)
  | ins k r => exact .ins k (r.dropA hF)
  | lck k r => exact .lck k (r.dropA hF)
  | gone => exact .gone
theorem Rel.lock {c : Stt} {σ : St} {H : Hp} {n : Nat} {ds : List (Key × D)} (R : Rel K Z F μ c σ H) (hn : c.S[n]? = some (.dct ds)) (ha : μ[n]? = some a) (hH : H a = some (.dK kvs)) (hk : kvs.map (·.1) = ds.map (·.1)) (rs : Reps K F μ (kvs.map (·.2)) (ds.map (·.2))) (ob : Obj) :
    Le F μ (upd F a (.frz ob (.dK kvs))) μ ∧ Rel K Z (upd F a (.frz ob (.dK kvs))) μ ⟨c.r, c.S.set n (.lck ds)⟩ σ (upd H a (.frz ob (.dK kvs))) := by
  have cp := R.sto n a _ ha hn
  have fa : F a = none := cp.f trivial
  have le : Le F μ (upd F a (.frz ob (.dK kvs))) μ := ⟨same_new fa, fun _ _ h => h⟩
  have hl : n < c.S.length := (List.getElem?_eq_some_iff.mp hn).1
  have grow : ∀ {b : Addr} {m : Cell}, b ≠ a → CellAt K Z F μ H b m → CellAt K Z (upd F a (.frz ob (.dK kvs))) μ (upd H a (.frz ob (.dK kvs))) b m := fun {b m} hb c1 =>
    ⟨c1.z, fun g => by rw [upd_ne hb]; exact c1.f g, let ⟨u, e2, e3⟩ := c1.o; ⟨u, by rw [upd_ne hb]; exact e2, e3.mono le⟩, fun g => by rw [upd_ne hb, upd_ne hb]; exact c1.l g⟩
  refine ⟨le, { ex := fun b x e => ?_, exz := fun b x e => ?_, fz := fun b x e => ?_, len := R.len, slot := fun i x e => (let ⟨v, e1, e2⟩ := R.slot i x e; ⟨v, e1, e2.mono le⟩), own := fun i m q => ?_, dis := R.dis, lm := by simpa using R.lm, sto := fun k b m e1 e2 => ?_, dst := R.dst, ndm := R.ndm }⟩
  · by_cases hb : b = a
    · subst hb; rw [upd_same] at e ⊢; exact e
    · rw [upd_ne hb] at e ⊢; exact R.ex b x e
  · have : b ≠ a := fun z => by subst z; rw [cp.z] at e; cases e
    rw [upd_ne this]; exact R.exz b x e
  · have : b ≠ a := fun z => by subst z; rw [cp.z] at e; cases e
    rw [upd_ne this]; exact R.fz b x e
  · obtain ⟨b, e1, c1, g1⟩ := R.own i m q
    have : b ≠ a := fun z => by subst z; exact R.dst i n b m q e1 ha
    exact ⟨b, e1, grow this c1, g1⟩
  · by_cases hkn : k = n
    · subst hkn
      rw [ha] at e1
      cases e1
      have e2 : (c.S.set k (.lck ds))[k]? = some m := e2
      rw [List.getElem?_set_self hl] at e2
      cases e2
      exact ⟨cp.z, fun g => g.elim, ⟨_, upd_same, .lck hk (rs.mono le)⟩, fun _ => by rw [upd_same, upd_same]⟩
    · have e2 : (c.S.set n (.lck ds))[k]? = some m := e2
      rw [List.getElem?_set_ne (Ne.symm hkn)] at e2
      have : b ≠ a := fun z => by subst z; exact hkn (R.ndm k n b e1 ha)
      exact grow this (R.sto k b m e1 e2)
theorem Rel.unlock {c : Stt} {σ : St} {H : Hp} {n : Nat} {ds : List (Key × D)} {F0 : Hp} {μ0 : List Addr} (R : Rel K Z F μ c σ H) (hn : c.S[n]? = some (.lck ds)) (ha : μ[n]? = some a) (hF : F a = some (.frz ob (.dK kvs))) (f0 : F0 a = none) (le : Le F0 μ0 F μ) :
    H a = some (.frz ob (.dK kvs)) ∧ Le F0 μ0 (dropF F a) μ ∧ Rel K Z (dropF F a) μ ⟨c.r, c.S.set n (.dct ds)⟩ σ (upd H a (.dK kvs)) := by
  have cp := R.sto n a _ ha hn
  have hl : n < c.S.length := (List.getElem?_eq_some_iff.mp hn).1
  have hH := R.ex _ _ hF
  have dn : dropF F a a = none := if_pos rfl
  have grow : ∀ {b : Addr} {m : Cell}, b ≠ a → CellAt K Z F μ H b m → CellAt K Z (dropF F a) μ (upd H a (.dK kvs)) b m := fun {b m} hb c1 =>
    ⟨c1.z, fun g => by rw [dropF_ne hb]; exact c1.f g, let ⟨u, e2, e3⟩ := c1.o; ⟨u, by rw [upd_ne hb]; exact e2, e3.drop hF⟩, fun g => by rw [dropF_ne hb, upd_ne hb]; exact c1.l g⟩
  refine ⟨hH, ⟨fun b x e => ?_, le.mu⟩, { ex := fun b x e => ?_, exz := fun b x e => ?_, fz := fun b x e => ?_, len := R.len, slot := fun i x e => (let ⟨v, e1, e2⟩ := R.slot i x e; ⟨v, e1, e2.drop hF⟩), own := fun i m q => ?_, dis := R.dis, lm := by simpa using R.lm, sto := fun k b m e1 e2 => ?_, dst := R.dst, ndm := R.ndm }⟩
  · rw [dropF_ne (fun z => by rw [z, f0] at e; cases e)]
    exact le.ex b x e
  · by_cases hb : b = a
    · subst hb; rw [dn] at e; cases e
    · rw [dropF_ne hb] at e
      rw [upd_ne hb]; exact R.ex b x e
  · have : b ≠ a := fun z => by subst z; rw [cp.z] at e; cases e
    rw [upd_ne this]; exact R.exz b x e
  · by_cases hb : b = a
    · subst hb; exact dn
    · rw [dropF_ne hb]; exact R.fz b x e
  · obtain ⟨b, e1, c1, g1⟩ := R.own i m q
    have : b ≠ a := fun z => by subst z; exact R.dst i n b m q e1 ha
    exact ⟨b, e1, grow this c1, g1⟩
  · by_cases hkn : k = n
    · subst hkn
      rw [ha] at e1
      cases e1
      have e2 : (c.S.set k (.dct ds))[k]? = some m := e2
      rw [List.getElem?_set_self hl] at e2
      cases e2
      obtain ⟨o, eo, co⟩ := cp.o
      rw [hH] at eo
      cases eo
      cases co with
      | lck hk rs => exact ⟨cp.z, fun _ => dn, ⟨_, upd_same, .dct hk (rs.dropA hF)⟩, fun g => g.elim⟩
    · have e2 : (c.S.set n (.dct ds))[k]? = some m := e2
      rw [List.getElem?_set_ne (Ne.symm hkn)] at e2
      have : b ≠ a := fun z => by subst z; exact hkn (R.ndm k n b e1 ha)
      exact grow this (R.sto k b m e1 e2)
end
section
variable {X : Cx} {W : WX} {e o a b i : Expr} {t to te ti ta tb : TE} {pos apos : Pos} {dob da db : M O} {dd dv di : M D}
/-- the dict dl tells is locked -/
def lckS (dl : M D) (m : M Fl) : M Fl := fun c => match dl c with
  | .ok (.loc n) _ => match c.S[n]? with
    | some (.dct ds) => match m ⟨c.r, c.S.set n (.lck ds)⟩ with
      | .ok f c' => match c'.S[n]? with
        | some (.lck es) => .ok f ⟨c'.r, c'.S.set n (.dct es)⟩
        | _ => .no
      | _ => .no
    | _ => .no
  | _ => .no
theorem dct_cell {K : PySem.W.Frag} {Z F : Hp} {μ : List Addr} {c : Stt} {σ : St} {H : Hp} {n : Nat} {ds : List (Key × D)} (R : Rel K Z F μ c σ H) (hn : c.S[n]? = some (.dct ds)) :
    ∃ a kvs, μ[n]? = some a ∧ H a = some (.dK kvs) ∧ kvs.map (·.1) = ds.map (·.1) ∧ Reps K F μ (kvs.map (·.2)) (ds.map (·.2)) ∧ F a = none := by
  have hl : n < μ.length := by rw [R.lm]; exact (List.getElem?_eq_some_iff.mp hn).1
  have ha := List.getElem?_eq_getElem hl
  have cp := R.sto n _ _ ha hn
  obtain ⟨u, e1, e2⟩ := cp.o
  cases e2 with
  | dct hk rs => exact ⟨_, _, ha, e1, hk, rs, cp.f trivial⟩
theorem sd_lock {st : Stmt} {ts : TS} {dl : M D} {m : M Fl} (h : SD X W st ts m) : SD X W st (tLock ts) (lckS dl m) := ⟨ps_lock h.ps, fun Z F μ c σ H D R p => by
  unfold lckS at p
  split at p
  · next n c0 _ =>
    split at p
    · next ds hn =>
      obtain ⟨a, kvs, ha, hH, hk, rs, fa⟩ := dct_cell R hn
      refine ⟨a, .dK kvs, hH, trivial, fun ob => ?_⟩
      obtain ⟨l1, R1⟩ := R.lock hn ha hH hk rs ob
      refine h.ev Z _ μ _ σ _ _ R1 ?_
      cases q : m ⟨c.r, c.S.set n (.lck ds)⟩ with
      | no => rw [q] at p; exact p.elim
      | ex _ _ => rw [q] at p; exact p.elim
      | ok f c' =>
        rw [q] at p
        dsimp only at p
        split at p
        · next es hes =>
          have key : ∀ {σ' : St} {F' : Hp} {μ' : List Addr} {H' : Hp}, Le (upd F a (.frz ob (.dK kvs))) μ F' μ' → Rel X.K Z F' μ' c' σ' H' → F' a = some (.frz ob (.dK kvs)) ∧ H' a = some (.frz ob (.dK kvs)) ∧ Le F μ (dropF F' a) μ' ∧ Rel X.K Z (dropF F' a) μ' ⟨c'.r, c'.S.set n (.dct es)⟩ σ' (upd H' a (.dK kvs)) := fun l R' =>
            have hF := l.ex _ _ upd_same
            ⟨hF, R'.unlock hes (l.mu _ _ ha) hF fa (l1.trans l)⟩
          cases f with
          | nx => exact fun σ' F' μ' H' l R' => (let ⟨_, h1, h2, h3⟩ := key l R'; ⟨h1, p σ' _ μ' _ h2 h3⟩)
          | bk => exact fun σ' F' μ' H' l R' => (let ⟨_, h1, h2, h3⟩ := key l R'; ⟨h1, p σ' _ μ' _ h2 h3⟩)
          | ct => exact fun σ' F' μ' H' l R' => (let ⟨_, h1, h2, h3⟩ := key l R'; ⟨h1, p σ' _ μ' _ h2 h3⟩)
          | rt d => exact fun v σ' F' μ' H' l R' rv => (let ⟨h0, h1, h2, h3⟩ := key l R'; ⟨h1, p v σ' _ μ' _ h2 h3 (rv.drop h0)⟩)
        · exact p.elim
    · exact p.elim
  · exact p.elim⟩
def lckN (dl : M D) (m : M (List D)) : M (List D) := fun c => match dl c with
  | .ok (.loc n) _ => match c.S[n]? with
    | some (.dct ds) => match m ⟨c.r, c.S.set n (.lck ds)⟩ with
      | .ok f c' => match c'.S[n]? with
        | some (.lck es) => .ok f ⟨c'.r, c'.S.set n (.dct es)⟩
        | _ => .no
      | _ => .no
    | _ => .no
  | _ => .no
theorem en_lock {dl : M D} {m : M (List D)} (h : EN X W e t m) : EN X W e (tLockE t) (lckN dl m) := ⟨pe_lock h.pe, fun Z F μ c σ H Q R p => by
  unfold lckN at p
  split at p
  · next n c0 _ =>
    split at p
    · next ds hn =>
      obtain ⟨a, kvs, ha, hH, hk, rs, fa⟩ := dct_cell R hn
      refine ⟨a, .dK kvs, hH, trivial, fun ob => ?_⟩
      obtain ⟨l1, R1⟩ := R.lock hn ha hH hk rs ob
      refine h.ev Z _ μ _ σ _ _ R1 ?_
      cases q : m ⟨c.r, c.S.set n (.lck ds)⟩ with
      | no => rw [q] at p; exact p.elim
      | ex _ _ => rw [q] at p; exact p.elim
      | ok f c' =>
        rw [q] at p
        dsimp only at p
        split at p
        · next es hes =>
          refine fun F' μ' H' l R' q vs hq nb rs' => ?_
          have hF := l.ex _ _ upd_same
          obtain ⟨h1, h2, h3⟩ := R'.unlock hes (l.mu _ _ ha) hF fa (l1.trans l)
          have hqa : q ≠ a := fun z => by subst z; rw [nb.f] at hF; cases hF
          refine ⟨h1, p _ μ' _ h2 h3 q vs (by rw [upd_ne hqa]; exact hq) ⟨by rw [dropF_ne hqa]; exact nb.f, nb.z, nb.no, nb.nm⟩ (rs'.dropA hF)⟩
        · exact p.elim
    · exact p.elim
  · exact p.elim⟩
/-- the keys of a locked dict -/
def keysX (x : D) : M (List D) := fun c => match x with
  | .loc n => match c.S[n]? with
    | some (.lck ds) => .ok (ds.map fun kv => .v (kV kv.1)) c
    | _ => .no
  | _ => .no
theorem wk_keys {K : PySem.W.Frag} {F : Hp} {μ : List Addr} {d : Addr} {ob : Obj} {kvs : List (Key × V)} {ds : List (Key × D)} (hF : F d = some (.frz ob (.dK kvs))) (hk : kvs.map (·.1) = ds.map (·.1)) : Wk K F μ (Itk d ob kvs) (ds.map fun kv => .v (kV kv.1)) := by
  have hl : kvs.length = ds.length := by
    have := congrArg List.length hk
    simpa using this
  refine ⟨fun i H s hi => ⟨s _ _ hF, ?_⟩, fun i H s hi => ⟨s _ _ hF, ?_⟩, fun i H x H' s hi ⟨e, k, v, h1, h2⟩ => ⟨.v x, ?_, .inl ⟨e, .v _⟩⟩⟩
  · rw [List.length_map] at hi; omega
  · rw [List.length_map] at hi; omega
  · have : (kvs.map (·.1))[i]? = some k := by rw [List.getElem?_map, h1]; rfl
    rw [hk, List.getElem?_map] at this
    rw [List.getElem?_map]
    cases q : ds[i]? with
    | none => rw [q] at this; cases this
    | some kv =>
      rw [q] at this
      cases this
      rw [h2]
      rfl
theorem id_keys {tg : Expr} (h : DD X W e t dd) : ID X W tg e (iKeys t) (M.bind dd keysX) := ⟨pi_keys h.pe, fun Z F μ c σ H P R p => h.ev Z F μ c σ H _ R (p.bind.imp fun x c1 F1 μ1 H1 l1 R1 p1 v r => by
  unfold keysX at p1
  split at p1
  · next n =>
    split at p1
    · next ds hn =>
      cases r with
      | loc ha =>
        have cp := R1.sto n _ _ ha hn
        obtain ⟨u, e1, e2⟩ := cp.o
        cases e2 with
        | lck hk rs =>
          have hF := cp.l trivial
          rw [e1] at hF
          exact ⟨_, _, rfl, .inl ⟨_, e1, p1 F1 μ1 H1 (Le.refl _ _) R1 _ (wk_keys hF hk)⟩⟩
    · exact p1.elim
  · exact p1.elim)⟩
/-! ### a dict that is read: locked or not -/
def rdcD (c : Stt) : O → Option (List (Key × D))
  | .d (.loc n) => match c.S[n]? with
    | some (.dct kvs) => some kvs
    | some (.lck kvs) => some kvs
    | _ => none
  | _ => none
theorem rdc_at {K : PySem.W.Frag} {Z F : Hp} {μ : List Addr} {c : Stt} {σ : St} {H : Hp} {v : V} {x : O} {ds : List (Key × D)} (h : Rel K Z F μ c σ H) (r : RepO K F μ σ v x) (e : rdcD c x = some ds) :
    ∃ a kvs, v = .ref a ∧ Rd H a (.dK kvs) ∧ kvs.map (·.1) = ds.map (·.1) ∧ Reps K F μ (kvs.map (·.2)) (ds.map (·.2)) := by
  cases r with
  | d r =>
    cases r with
    | loc hn =>
      unfold rdcD at e
      dsimp only at e
      split at e
      · next ds' hs =>
        cases e
        obtain ⟨_, _, ⟨u, e1, e2⟩, _⟩ := h.sto _ _ _ hn hs
        cases e2 with
        | dct k r => exact ⟨_, _, rfl, .inl e1, k, r⟩
      · next ds' hs =>
        cases e
        obtain ⟨_, _, ⟨u, e1, e2⟩, _⟩ := h.sto _ _ _ hn hs
        cases e2 with
        | lck k r => exact ⟨_, _, rfl, .inr ⟨_, e1⟩, k, r⟩
      · cases e
    | _ => cases e
  | sl q => cases e
/-- d[k] -/
def dRGet (dob : M O) (di : M D) : M D := M.bind dob fun x => M.bind di fun k c => match rdcD c x, keyD k with
  | some kvs, some k => match valD kvs k with
    | some y => .ok y c
    | none => .no
  | _, _ => .no
theorem dd_rget (hu : X.A.units + 1 < cLine) (ho : ED X W o to dob) (hi : DD X W i ti di) (hs : NoSl i := by intro _ _; rfl) : DD X W (.Subscript o i pos) (tDGet to ti) (dRGet dob di) :=
  ⟨pe_dget hu ho.pe hi.pe hs, fun Z F μ c σ H Q R p => ho.ev Z F μ c σ H _ R (p.bind.imp fun x c1 F1 μ1 H1 l1 R1 p1 v r => hi.ev Z F1 μ1 c1 σ H1 _ R1 (p1.bind.imp fun k c2 F2 μ2 H2 l2 R2 p2 u ru => by
    split at p2
    · next kvs kk e1 e2 =>
      split at p2
      · next y hy =>
        obtain ⟨a, gs, rfl, ha, hk, rs⟩ := rdc_at R2 (r.mono l2) e1
        obtain ⟨w, hw, rw'⟩ := val_rep hk rs hy
        have := key_at ru e2
        subst this
        have g : DGet H2 a (kV kk) (valV gs kk) := .inl ⟨gs, kk, ha, rfl, rfl⟩
        rw [hw] at g
        exact ⟨a, w, rfl, g, p2 F2 μ2 H2 (Le.refl _ _) R2 _ rw'⟩
      · exact p2.elim
    · exact p2.elim))⟩
/-- k in d -/
def dIn (di : M D) (dob : M O) (f : Bool → Bool) : M D := M.bind di fun k => M.bind dob fun x c => match rdcD c x, keyD k with
  | some kvs, some k => .ok (.v (.bl (f (valD kvs k).isSome))) c
  | _, _ => .no
/-- d[k] += j -/
def dDAug (f : Int → Int → Int) (dob : M O) (di dv : M D) : M Fl := M.bind dob fun x => M.bind di fun k c => match rdcD c x, keyD k with
  | some kvs, some kk => match valD kvs kk with
    | some (.v (.int i)) => M.bind dv (fun y c => match y, x with
      | .v (.int j), .d (.loc n) => match dctD c (.d (.loc n)) with
        | some kvs => if kvs.length < 1000000 then .ok .nx ⟨c.r, c.S.set n (.dct (putD kvs kk (.v (.int (f i j)))))⟩ else .no
        | none => .no
      | _, _ => .no) c
    | _ => .no
  | _, _ => .no
def rdI (f : Int → Int → Int) : V → V → Hp → VK → Prop := fun x y H Q => ∃ i j, x = .int i ∧ y = .int j ∧ Q (.int (f i j)) H
theorem sd_daug {op : Operator} {f : Int → Int → Int} {tpos : Pos} (hop : InOp X op (rdI f)) (hu : X.A.units + 1 < cLine) (ho : ED X W o to dob) (hi : DD X W i ti di) (hv : DD X W e te dv)
    (ha : ∀ ov iv new, augStore i ov iv new = (do holding [new, ov, iv] (setItem ov iv new); release [new, ov, iv] []; pure .next) := by intros; rfl) : SD X W (.AugAssign (.Subscript o i tpos) op e pos) (sDAug to ti te (rdI f)) (dDAug f dob di dv) :=
  ⟨ps_daug hu ho.pe hi.pe hv.pe hop ha, fun Z F μ c σ H D R p => ho.ev Z F μ c σ H _ R (p.bind.imp fun x c1 F1 μ1 H1 l1 R1 p1 v r => hi.ev Z F1 μ1 c1 σ H1 _ R1 (p1.bind.imp fun k c2 F2 μ2 H2 l2 R2 p2 u ru => by
    split at p2
    · next kvs kk e1 e2 =>
      split at p2
      · next z hz =>
        obtain ⟨a, gs, rfl, hd, hk, rs⟩ := rdc_at R2 (r.mono l2) e1
        obtain ⟨w, hw, rw'⟩ := val_rep hk rs hz
        cases rw'
        have ek := key_at ru e2
        subst ek
        have g : DGet H2 a (kV kk) (valV gs kk) := .inl ⟨gs, kk, hd, rfl, rfl⟩
        rw [hw] at g
        refine ⟨a, _, rfl, g, hv.ev Z F2 μ2 c2 σ H2 _ R2 (p2.bind.imp fun y c3 F3 μ3 H3 l3 R3 p3 w2 r2 => ?_)⟩
        split at p3
        · next j n =>
          cases r2
          refine ⟨z, j, rfl, rfl, ?_⟩
          split at p3
          · next kv2 e3 =>
            split at p3
            · next hz2 =>
              obtain ⟨a', gs2, n', e4, e5, hn, hs, ha', hk2, rs2⟩ := dct_at R3 ((r.mono l2).mono l3) e3
              cases e4
              cases e5
              obtain ⟨k', rs'⟩ := put_rep (k := kk) (.v (.int (f z j))) hk2 rs2
              have hl : gs2.length < sizeLine := by
                have h1 : (gs2.map (·.1)).length = (kv2.map (·.1)).length := by rw [hk2]
                rw [List.length_map, List.length_map] at h1
                rw [h1]
                exact lt6 hz2
              exact ⟨_, DPut.k (k := kk) ha' hl, p3 _ F3 μ3 _ (Le.refl _ _) (R3.put hs trivial hn (.dct k' rs'))⟩
            · exact p3.elim
          · exact p3.elim
        · exact p3.elim
      · exact p2.elim
    · exact p2.elim))⟩
theorem io_add : InOp X .Add (rdI fun i j => i + j) := in_add
theorem io_sub : InOp X .Sub (rdI fun i j => i - j) := in_sub
/-! ### xs[i] += j -/
def rGL (K : PySem.W.Frag) : V → V → Hp → VK → Prop := fun o i H Q => ∃ p xs k v, o = .ref p ∧ i = .int k ∧ 0 ≤ k ∧ SqL K H p xs ∧ xs[k.toNat]? = some v ∧ Q v H
theorem get_list : PGet X (rGL X.K) := by
  rintro pins s σ H o i ov iv Q I ro ri ⟨p, xs, k, v, rfl, rfl, h0, hq, hv, q⟩
  cases ro
  obtain ⟨t, rfl⟩ := ri
  obtain ⟨its, r, pl, hz⟩ := I.list hq
  obtain ⟨w, ew, rw'⟩ := r.get hv
  have hl := r.length
  have hn := line63
  have hlt := (List.getElem?_eq_some_iff.mp hv).1
  exact wpAny_getItem_list pl.isList h0 (by omega) (by simpa using ew) ⟨v, H, I, rw', q⟩
def dAugL (f : Int → Int → Int) (dob : M O) (di dv : M D) : M Fl := M.bind dob fun x => M.bind di fun k c => match k with
  | .v (.int z) => if 0 ≤ z then match rdlD c x with
    | some ds => match ds[z.toNat]? with
      | some (.v (.int i)) => M.bind dv (fun y c => match y with
        | .v (.int j) => match mutD c x with
          | some es => if z.toNat < es.length then .ok .nx (putL x (es.set z.toNat (.v (.int (f i j)))) c) else .no
          | none => .no
        | _ => .no) c
      | _ => .no
    | none => .no else .no
  | _ => .no
theorem sd_augL {K : PySem.W.Frag} {op : Operator} {f : Int → Int → Int} {tpos : Pos} (hop : PIp X op (ipI f)) (ho : ED X W o to dob) (hi : DD X W i ti di) (hv : DD X W e te dv)
    (ha : ∀ ov iv new, augStore i ov iv new = (do holding [new, ov, iv] (setItem ov iv new); release [new, ov, iv] []; pure .next) := by intros; rfl) (hK : X.K = K := by rfl) : SD X W (.AugAssign (.Subscript o i tpos) op e pos) (tAugS to ti te (rGL K) (ipI f) rSetL) (dAugL f dob di dv) := by
  subst hK
  exact ⟨ps_augS ho.pe hi.pe get_list hv.pe hop set_list ha, fun Z F μ c σ H D R p => ho.ev Z F μ c σ H _ R (p.bind.imp fun x c1 F1 μ1 H1 l1 R1 p1 v r => hi.ev Z F1 μ1 c1 σ H1 _ R1 (p1.bind.imp fun k c2 F2 μ2 H2 l2 R2 p2 u ru => by
    split at p2
    · next z =>
      cases ru
      split at p2
      · next h0 =>
        split at p2
        · next ds hds =>
          split at p2
          · next i hi =>
            obtain ⟨l, vs, rfl, h1, q1⟩ := rdl_at R2 (r.mono l2) hds
            obtain ⟨w, hw, rw'⟩ := q1.get hi
            cases rw'
            refine ⟨l, vs, z, _, rfl, rfl, h0, h1, hw, hv.ev Z F2 μ2 c2 σ H2 _ R2 (p2.bind.imp fun y c3 F3 μ3 H3 l3 R3 p3 w2 r2 => ?_)⟩
            split at p3
            · next j =>
              cases r2
              refine ⟨i, j, rfl, rfl, ?_⟩
              split at p3
              · next es hes =>
                split at p3
                · next hlt =>
                  obtain ⟨l', vs', e5, h2, rs, kk⟩ := mut_at R3 ((r.mono l2).mono l3) hes
                  cases e5
                  refine ⟨l, vs', z, z.toNat, rfl, rfl, h2, ?_, p3 _ F3 μ3 _ (Le.refl _ _) (kk _ _ (Reps.set (.v (.int (f i j))) z.toNat rs))⟩
                  unfold ixN
                  rw [if_pos h0, if_pos (by rw [rs.length]; omega)]
                · exact p3.elim
              · exact p3.elim
            · exact p3.elim
          · exact p2.elim
        · exact p2.elim
      · exact p2.elim
    · exact p2.elim))⟩
/-! ### t + u of tuples -/
def gCat2 : O → O → M D := fun a b c => match tupD a, tupD b with
  | some (d :: ds), some (e :: es) => if (d :: ds).length + (e :: es).length ≤ 1000000 then .ok (.tup ((d :: ds) ++ (e :: es))) c else .no
  | _, _ => .no
theorem r2_cat2 {K : PySem.W.Frag} : R2S K W (rCatT K) gCat2 := fun Z F μ c σ H Q x y a b R rx ry p => by
  unfold gCat2 at p
  split at p
  · next d ds e es e1 e2 =>
    obtain ⟨l, vs, rfl, h1, q1⟩ := tup_at R rx e1
    obtain ⟨m, ws, rfl, h2, q2⟩ := tup_at R ry e2
    split at p
    · next hz =>
      cases q1 with
      | cons a1 a2 =>
        cases q2 with
        | cons b1 b2 =>
          have r1 := Reps.cons a1 a2
          have r2 := Reps.cons b1 b2
          refine ⟨l, m, _, _, rfl, rfl, h1, h2, (by intro z; cases z), small6 (by rw [r1.length, r2.length]; exact hz), (fun z => by cases z), fun _ t ht => ?_⟩
          obtain ⟨R2, l2⟩ := R.new (o := .tup _) ht
          exact p _ _ _ l2 R2 _ (.tup (.of upd_same) ((r1.append r2).mono l2))
    · exact p.elim
  · exact p.elim
theorem dd_cat2 {K : PySem.W.Frag} {da db : M O} (ha : ED X W a ta da) (hb : ED X W b tb db) (hK : X.K = K := by rfl) : DD X W (.BinOp a .Add b pos) (tOp (rCatT K) ta tb) (dOp gCat2 da db) := by
  subst hK
  exact dd_op op_catT r2_cat2 ha hb
/-! ### dict(pairs) -/
def pairsD : List D → Option (List (Key × D))
  | [] => some []
  | .tup [k, v] :: ds => match keyD k, pairsD ds with
    | some k, some r => some ((k, v) :: r)
    | _, _ => none
  | _ => none
def mergeD (kvs more : List (Key × D)) : List (Key × D) := more.foldl (fun acc kv => putD acc kv.1 kv.2) kvs
theorem pairs_of {K : PySem.W.Frag} {F H : Hp} {μ : List Addr} (ex : Same F H) : ∀ {ds : List D} {vs : List V} {ks : List (Key × D)}, Reps K F μ vs ds → pairsD ds = some ks → ∃ ps kvs, vs = ps.map V.ref ∧ Paired (fun (p : Addr) (kv : Key × V) => SqT K H p [kV kv.1, kv.2]) ps kvs ∧ kvs.map (·.1) = ks.map (·.1) ∧ Reps K F μ (kvs.map (·.2)) (ks.map (·.2))
  | [], vs, ks, r, e => by
    cases r
    cases e
    exact ⟨[], [], rfl, .nil, rfl, .nil⟩
  | d :: ds, vs, ks, r, e => by
    cases r with
    | cons r1 r2 =>
      unfold pairsD at e
      split at e
      · next h => cases h
      · next k v ds' h =>
        cases h
        split at e
        · next kk r' e1 e2 =>
          cases e
          obtain ⟨ps, kvs, rfl, h1, h2, h3⟩ := pairs_of ex r2 e2
          cases r1 with
          | tup hs rs =>
            cases rs with
            | cons ra rs =>
              cases rs with
              | cons rb rs =>
                cases rs
                have := key_at ra e1
                subst this
                exact ⟨_ :: ps, (kk, _) :: kvs, rfl, .cons (Same.seqT ex hs) h1, by rw [List.map_cons, List.map_cons, h2], .cons rb h3⟩
        · cases e
      · cases e
theorem merge_rep {K : PySem.W.Frag} {F : Hp} {μ : List Addr} : ∀ {more : List (Key × V)} {ms : List (Key × D)} {kvs : List (Key × V)} {ks : List (Key × D)}, more.map (·.1) = ms.map (·.1) → Reps K F μ (more.map (·.2)) (ms.map (·.2)) → kvs.map (·.1) = ks.map (·.1) → Reps K F μ (kvs.map (·.2)) (ks.map (·.2)) →
    (mergeK kvs more).map (·.1) = (mergeD ks ms).map (·.1) ∧ Reps K F μ ((mergeK kvs more).map (·.2)) ((mergeD ks ms).map (·.2))
  | [], [], _, _, _, _, h, r => ⟨h, r⟩
  | [], _ :: _, _, _, h, _, _, _ => by cases h
  | _ :: _, [], _, _, h, _, _, _ => by cases h
  | (a1, a2) :: more, (f1, f2) :: ms, kvs, ks, h, r, h', r' => by
    rw [List.map_cons, List.map_cons] at h r
    obtain ⟨h1, h2⟩ := List.cons.inj h
    replace h1 : a1 = f1 := h1
    subst h1
    cases r with
    | cons r1 r2 =>
      obtain ⟨e1, e2⟩ := put_rep (k := a1) r1 h' r'
      exact merge_rep (kvs := putK kvs a1 a2) (ks := putD ks a1 f2) h2 r2 e1 e2
def dDctOf (da : M O) : M D := M.bind da fun a c => match (rdlD c a).bind pairsD with
  | some ks => .ok (.loc c.S.length) ⟨c.r, c.S ++ [.dct (mergeD [] ks)]⟩
  | none => .no
def rDctOf (K : PySem.W.Frag) : List V → Hp → VK → Prop := fun xs H Q => ∃ (a : Addr) (ps : List Addr) (kvs : List (Key × V)), xs = [.ref a] ∧ SqL K H a (ps.map V.ref) ∧ Paired (fun (p : Addr) (kv : Key × V) => SqT K H p [kV kv.1, kv.2]) ps kvs ∧
    ∀ p, H p = none → Q (.ref p) (upd H p (.dK (mergeK [] kvs)))
theorem dd_dctOf {K : PySem.W.Frag} {p : Pos} (hc : X.calm = true) (hg : Gl X "dict") (hm : X.mg "dict" = none) (hv : bootBuiltins "dict" = some (.type "dict")) (ha : ED X W a ta da)
    (hs : starEach [a] X.env = (false, eval a X.env) :: starEach [] X.env := by rfl)
    (he : starEach [a] X.env = (false, eval a X.env) :: starEach [] X.env := by rfl) (hpl : (backTo pos (starEach [] X.env)).any (·.1) = false := by rfl) (hK : X.K = K := by rfl) :
    DD X W (.Call (.Name "dict" p) [a] [] pos) (tCB (rDctOf K) (tCons ta tNil)) (dDctOf da) := by
  subst hK
  refine ⟨pe_callTy (call_dictP hc) hg hm hv (pa_cons ha.pe pa_nil hs) (by decide) (by decide) he hpl, fun Z F μ c σ H Q R p => ha.ev Z F μ c σ H _ R (p.bind.imp fun o c1 F1 μ1 H1 l1 R1 p1 v1 r1 => ?_)⟩
  split at p1
  · next ks hks =>
    cases hd : rdlD c1 o with
    | none => rw [hd] at hks; cases hks
    | some ds =>
      rw [hd] at hks
      obtain ⟨l, vs, rfl, h1, q1⟩ := rdl_at R1 r1 hd
      obtain ⟨ps, kvs, rfl, g1, g2, g3⟩ := pairs_of R1.ex q1 hks
      refine ⟨l, ps, kvs, rfl, h1, g1, fun q hq => ?_⟩
      obtain ⟨m1, m2⟩ := merge_rep (kvs := []) (ks := []) g2 g3 rfl .nil
      have nb := R1.nob hq
      obtain ⟨R2, l2⟩ := (R1.up (same_new (o := .dK (mergeK [] kvs)) hq)).push (m := .dct (mergeD [] ks)) upd_same nb.f nb.z nb.no nb.nm (.dct m1 (m2.mono ⟨Same.refl _, fun n x h => by
        have hn : n < μ1.length := (List.getElem?_eq_some_iff.mp h).1
        rw [List.getElem?_append_left hn]
        exact h⟩))
      refine p1 F1 _ _ l2 R2 _ (.loc ?_)
      have : μ1.length = c1.S.length := R1.lm
      rw [← this]
      simp
  · exact p1.elim
end
end My

set_option Elab.async false
set_option linter.all false
set_option maxRecDepth 100000
set_option maxHeartbeats 4000000
/-! F22: repr of tuples, in the law's own def alone (where no repr is under way). -/
namespace My
open PySem PySem.Spec L2
mutual
inductive Tld (K : PySem.W.Frag) (H : Hp) : V → PyData → Prop
  | non : Tld K H .non .none
  | bl (b : Bool) : Tld K H (.bl b) (.bool b)
  | int (i : Int) : Tld K H (.int i) (.int i)
  | str (x : Str) : Tld K H (.str x) (.str x)
  | tup {a : Addr} {vs : List V} {ds : List PyData} : SqT K H a vs → Tlds K H vs ds → Tld K H (.ref a) (.tuple ds)
inductive Tlds (K : PySem.W.Frag) (H : Hp) : List V → List PyData → Prop
  | nil : Tlds K H [] []
  | cons {v : V} {d : PyData} {vs : List V} {ds : List PyData} : Tld K H v d → Tlds K H vs ds → Tlds K H (v :: vs) (d :: ds)
end
section
variable {X : Cx} {pins : List (Addr × Obj)} {σ : St} {H : Hp} {s : Shared}
mutual
theorem tld_reads (I : Inv X pins σ H s) : ∀ {v : V} {d : PyData} {u : Value}, Tld X.K H v d → RelV v u → ∃ as, Reads s.heap u d as
  | _, _, _, .non, r => by cases (show _ = Value.none from r); exact ⟨_, .none⟩
  | _, _, _, .bl b, r => by cases (show _ = Value.bool b from r); exact ⟨_, .bool b⟩
  | _, _, _, .int i, r => by obtain ⟨t, rfl⟩ := (show ∃ t, _ = Value.int i t from r); exact ⟨_, .int i t⟩
  | _, _, _, .str x, r => by obtain ⟨t, rfl⟩ := (show ∃ t, _ = Value.str x t from r); exact ⟨_, .str x t⟩
  | _, _, _, .tup (a := a) h q, r => by
    cases (show _ = Value.ref a from r)
    obtain ⟨its, rv, ⟨o, h1, h2, n, h3⟩, _⟩ := I.tuple h
    obtain ⟨as, q2⟩ := tlds_reads I q rv
    exact ⟨as, .tuple h1 h2 h3 (by simpa using q2)⟩
theorem tlds_reads (I : Inv X pins σ H s) : ∀ {vs : List V} {ds : List PyData} {us : List Value}, Tlds X.K H vs ds → Vals vs us → ∃ as, ReadsAll s.heap us ds as
  | _, _, _, .nil, .nil => ⟨_, .nil⟩
  | _, _, _, .cons a b, .cons r rs => by
    obtain ⟨as, p⟩ := tld_reads I a r
    obtain ⟨bs, q⟩ := tlds_reads I b rs
    exact ⟨_, .cons p q⟩
end
def rReprD (K : PySem.W.Frag) : List V → Hp → VK → Prop := fun xs H Q => ∃ (a : Addr) (d : PyData), xs = [.ref a] ∧ Tld K H (.ref a) d ∧ d.showable = true ∧ d.hasDict = false ∧ d.depth ≤ 60 ∧ d.shown.length ≤ sizeLine ∧ Q (.str d.shown) H
theorem call_reprD (hg : X.A.guards = some []) (hu : X.A.units + 66 < cLine) : CallR X (.builtin "repr") (rReprD X.K) := by
  intro pins s σ H xs us Q I r h
  obtain ⟨a, d, rfl, t, h1, h2, h3, h4, q⟩ := h
  obtain ⟨u, rfl, r1⟩ := vals1 r
  obtain ⟨as, rd⟩ := tld_reads I t r1
  cases (show u = Value.ref a from r1)
  refine repr_of_reads' rd h1 (PyData.noDict_hsm h2) hg (by omega) (fun _ _ e => e) (fun h' u tk hk => ?_) h4
  exact ⟨.str d.shown, H, I.kept hk, ⟨_, rfl⟩, q⟩
end
mutual
def pdOf : D → Option PyData
  | .v .non => some .none
  | .v (.bl b) => some (.bool b)
  | .v (.int i) => some (.int i)
  | .v (.str x) => some (.str x)
  | .tup ds => (pdsOf ds).map .tuple
  | _ => none
def pdsOf : List D → Option (List PyData)
  | [] => some []
  | d :: ds => match pdOf d, pdsOf ds with
    | some p, some ps => some (p :: ps)
    | _, _ => none
end
mutual
theorem rep_tld {K : PySem.W.Frag} {F H : Hp} {μ : List Addr} (e : Same F H) : ∀ {v : V} {d : D} {p : PyData}, Rep K F μ v d → pdOf d = some p → Tld K H v p
  | _, _, _, .v x, h => by
    cases x <;> simp only [pdOf] at h <;> cases h <;> constructor
  | _, _, _, .tup (ds := ds) hq r, h => by
    simp only [pdOf] at h
    cases hp : pdsOf ds with
    | none => rw [hp] at h; cases h
    | some ps =>
      rw [hp] at h
      cases h
      exact .tup (Same.seqT e hq) (reps_tlds e r hp)
  | _, _, _, .lst _ _, h => by simp only [pdOf] at h; cases h
  | _, _, _, .scr _ _, h => by simp only [pdOf] at h; cases h
  | _, _, _, .dct _ _ _, h => by simp only [pdOf] at h; cases h
  | _, _, _, .ins _ _ _, h => by simp only [pdOf] at h; cases h
  | _, _, _, .loc _, h => by simp only [pdOf] at h; cases h
  | _, _, _, .exn0, h => by simp only [pdOf] at h; cases h
  | _, _, _, .exn1 _ _, h => by simp only [pdOf] at h; cases h
theorem reps_tlds {K : PySem.W.Frag} {F H : Hp} {μ : List Addr} (e : Same F H) : ∀ {vs : List V} {ds : List D} {ps : List PyData}, Reps K F μ vs ds → pdsOf ds = some ps → Tlds K H vs ps
  | _, _, _, .nil, h => by
    simp only [pdsOf] at h
    cases h
    exact .nil
  | _, _, _, .cons (d := d) (ds := ds) r rs, h => by
    simp only [pdsOf] at h
    cases hp : pdOf d with
    | none => rw [hp] at h; cases h
    | some p =>
      cases hq : pdsOf ds with
      | none => rw [hp, hq] at h; cases h
      | some ps =>
        rw [hp, hq] at h
        cases h
        exact .cons (rep_tld e r hp) (reps_tlds e rs hq)
end
mutual
theorem pdOf_nd : ∀ {d : D} {p : PyData}, pdOf d = some p → p.hasDict = false
  | .v x, _, h => by
    cases x <;> simp only [pdOf] at h <;> cases h <;> simp only [PyData.hasDict]
  | .tup ds, _, h => by
    simp only [pdOf] at h
    cases hp : pdsOf ds with
    | none => rw [hp] at h; cases h
    | some ps =>
      rw [hp] at h
      cases h
      simp only [PyData.hasDict]
      exact pdsOf_nd hp
  | .lst _, _, h => by simp only [pdOf] at h; cases h
  | .scr _, _, h => by simp only [pdOf] at h; cases h
  | .dct _, _, h => by simp only [pdOf] at h; cases h
  | .ins _ _, _, h => by simp only [pdOf] at h; cases h
  | .loc _, _, h => by simp only [pdOf] at h; cases h
  | .exn _ _ _ _, _, h => by simp only [pdOf] at h; cases h
theorem pdsOf_nd : ∀ {ds : List D} {ps : List PyData}, pdsOf ds = some ps → PyData.hasDictAll ps = false
  | [], _, h => by
    simp only [pdsOf] at h
    cases h
    simp only [PyData.hasDictAll]
  | d :: ds, _, h => by
    simp only [pdsOf] at h
    cases hp : pdOf d with
    | none => rw [hp] at h; cases h
    | some p =>
      cases hq : pdsOf ds with
      | none => rw [hp, hq] at h; cases h
      | some ps =>
        rw [hp, hq] at h
        cases h
        simp only [PyData.hasDictAll, pdOf_nd hp, pdsOf_nd hq, Bool.or_self]
end
def gRepr : O → M D := fun a c => match a with
  | .d (.tup ds) => match pdOf (.tup ds) with
    | some p => if p.showable = true ∧ p.depth ≤ 60 ∧ p.shown.length ≤ 16777216 then .ok (.v (.str p.shown)) c else .no
    | none => .no
  | _ => .no
section
variable {X : Cx} {W : WX}
theorem c1_repr {K : PySem.W.Frag} : C1S K W (rReprD K) gRepr := fun Z F μ c σ H Q x a R rx p => by
  unfold gRepr at p
  split at p
  · next ds =>
    split at p
    · next pd hp =>
      split at p
      · next hz =>
        cases rx with
        | d rx =>
          have t := rep_tld R.ex rx hp
          have nd := pdOf_nd hp
          cases rx
          exact ⟨_, pd, rfl, t, hz.1, nd, hz.2.1, hz.2.2, p F μ H (Le.refl _ _) R _ (.v _)⟩
      · exact p.elim
    · exact p.elim
  · exact p.elim
theorem bRepr {K : PySem.W.Frag} (hg : X.A.guards = some []) (hu : X.A.units + 66 < cLine) (hK : X.K = K := by rfl) : B1 X W (.builtin "repr") (rReprD K) gRepr := by
  subst hK
  exact ⟨call_reprD hg hu, c1_repr⟩
end
/-- a def's promise where no repr is under way -/
structure FnG (P : Program) (w : World) (K : PySem.W.Frag) (mg : Str → Option Value) (base : Heap) (CX : CXT) (k : Nat) (f : Addr) (fd : FuncData) (ps : List Str) (sp : Sp) : Prop where
  run : ∀ (A : Around) (outer : List Env) (s : Shared) (H : Hp) (args : Args) (us : List Value) (vs : List V) (Q : VK) (E : XK), A.guards = some [] → Room k A → Env0 P w K mg base A outer s H → BindsTo s fd args (ps.zip us) → Vals vs us → sp vs H Q E →
    codeAny (model P w) A (.call (.ref f) args) (CR CX outer P w H s Q E) s
theorem fn_okG {P : Program} {w : World} {K : PySem.W.Frag} {mg : Str → Option Value} {base : Heap} {x qual : Str} {st : Stmt} {f : Addr} {fd : FuncData} {N ps : List Str} {j k : Nat} {b : M Fl} (F : Fun K x qual st f fd) (S : FnScope N ps (defScope st)) (hk : ps.length = k) (hN : k ≤ N.length)
    (body : ∀ (cdv : Value) (A : Around) (outer : List Env) (s : Shared) (H : Hp) (E : XK), A.guards = some [] → Room j (A.deeper (PyProof.Rows.envOfC qual (defScope st) s.heap.objs.size f cdv)) →
      ∃ t, BD (cxOf (L2.CX P w) P w K mg base N qual (defScope st) f cdv A outer s H E) (fun cls d _ H => E cls d H) (defBody st) t b) : FnG P w K mg base (L2.CX P w) (j + 1) f fd ps (spG K (runD N.length k b)) := by
  obtain ⟨oc, od, kV, doc, pm, an, cdv, ct, osl, rfl, lk, hcd⟩ := F.ex
  refine ⟨fun A outer s H args us vs Q E hg hr e0 hb r hsp => ?_⟩
  obtain ⟨Z, F0, μ, S0, ds, R, rs, p⟩ := hsp
  unfold runD at p
  split at p
  · next hl =>
    refine LamX.run_ofS lk hcd S hr e0 hb r (by rw [rs.length, hl, hk]) fun hr' => ?_
    obtain ⟨t, B⟩ := body cdv A outer s H E hg hr'
    refine ⟨t, B.ps, B.ev Z F0 μ _ _ H _ (rel_start R rs hl hN) ?_⟩
    have strip : ∀ {F' : Hp} {μ' : List Addr} {c : Stt} {σ' : St} {H' : Hp}, Rel K Z F' μ' c σ' H' → Rel K Z F' μ' ⟨[], c.S⟩ [] H' := fun h =>
      { ex := h.ex, exz := h.exz, fz := h.fz, len := rfl, slot := fun i x e => by simp at e, own := fun i x e => by simp at e, dis := fun i j a m m' e => by simp at e, lm := h.lm, sto := h.sto, dst := fun i n a m e => by simp at e, ndm := h.ndm }
    cases e : b ⟨ds.map .d ++ List.replicate (N.length - k) .no, S0⟩ with
    | no => rw [e] at p; exact p.elim
    | ex x c => rw [e] at p; exact fun cls od σ' F' μ' H' l R' rx => p cls od F' μ' H' l (strip R') rx
    | ok fl c =>
      rw [e] at p
      cases fl with
      | nx => exact fun σ' F' μ' H' l R' => p .non F' μ' H' l (strip R') (.v _)
      | rt d => exact fun v σ' F' μ' H' l R' rv => p v F' μ' H' l (strip R') rv
      | bk => exact p.elim
      | ct => exact p.elim
  · exact p.elim
/-- what is known of the script, nothing else -/
structure Fresh (K : PySem.W.Frag) (H : Hp) (h : Heap) (a : Addr) (xs : List V) : Prop where
  dom : ∀ b u, H b = some u → b = a ∧ K.lookup a = none ∧ ∃ o, h.get? a = some o ∧ u = .frz o (.lst xs)
  sq : SqL K H a xs
section
variable {P : Program} {w : World} {K : PySem.W.Frag} {mg mb : Str → Option Value} {s : Shared} {a : Addr} {vs : List Value} {xs : List V}
theorem fresh_of (KX : K.In s.heap) (ha : s.heap.get? a = some { cls := .type "list", data := .seq vs.toArray }) (rv : Vals xs vs) (hl : xs.length ≤ sizeLine) : ∃ H, Fresh K H s.heap a xs ∧ HOk P w H s.heap := by
  cases hk : K.lookup a with
  | some o =>
    have e := (KX a o hk).symm.trans ha
    cases e
    exact ⟨fun _ => none, ⟨fun b u e => (by cases e), .inr ⟨_, vs.toArray, _, hk, rfl, rfl, rfl, (by rw [List.size_toArray, ← rv.length]; exact hl), (by simpa using rv)⟩⟩, fun b u e => (by cases e)⟩
  | none =>
    refine ⟨upd (fun _ => none) a (.frz { cls := .type "list", data := .seq vs.toArray } (.lst xs)), ⟨fun b u e => ?_, .inl (.inr ⟨_, upd_same⟩)⟩, fun b u e => ?_⟩
    · by_cases hb : b = a
      · subst hb
        rw [upd_same] at e
        cases e
        exact ⟨rfl, hk, _, ha, rfl⟩
      · rw [upd_ne hb] at e
        cases e
    · by_cases hb : b = a
      · subst hb
        rw [upd_same] at e
        cases e
        exact ⟨ha, hl, vs, _, rv, ha⟩
      · rw [upd_ne hb] at e
        cases e
theorem law_callG {k : Nat} {fa : Addr} {fd : FuncData} {x : Str} {sp : Sp} {ns : List Int} (KX : K.In s.heap) (g1 : s.heap.Ns mainGlobals mg) (g2 : s.heap.Ns builtinsNs mb) (g3 : ∀ y : Str, y ≠ "__name__" → mb y = bootBuiltins y) (g4 : s.heap.NoLimit) (g5 : s.gens = #[])
    (ha : s.heap.get? a = some { cls := .type "list", data := .seq vs.toArray }) (hi : PyProof.Rows.IntsAre vs ns) (hl : ns.length ≤ sizeLine) (hr : Room k callerA)
    (F : ∀ b : Heap, K.In b → b.Ns mainGlobals mg → FnG P w K mg b (L2.CX P w) k fa fd [x] sp) (hb : ∀ (t : Shared) (u : Value), BindsTo t fd ⟨[u], []⟩ [(x, u)])
    (hsp : ∀ H, SqL K H a (ns.map V.int) → sp [.ref a] H (fun v _ => v = .bl true) E00) :
    codeAny (model P w) callerA (.call (.ref fa) ⟨[.ref a], []⟩) (fun r t => r = .ok (.ret (.bool true)) ∧ OldK s.heap t.heap ∧ t.os = s.os ∧ PyProof.Rows.AllBare t.gens) s := by
  obtain ⟨H, fr, hok⟩ := fresh_of (P := P) (w := w) KX ha (L2.vals_ints hi) (by rw [List.length_map]; exact hl)
  have out : ∀ {b : Addr} {o : Obj}, s.heap.get? b = some o → (b = a → K.lookup a ≠ none) → (hidT s.heap H).get? b = some o := fun {b o} e n => hidT_get e (by
    cases q : H b with
    | none => rfl
    | some u =>
      obtain ⟨e1, e2, _⟩ := fr.dom b u q
      exact absurd e2 (n e1))
  have nsO : ∀ {b : Addr} {m : Str → Option Value}, s.heap.Ns b m → (hidT s.heap H).Ns b m := fun {b m} ⟨o, es, ep, e, d, z⟩ => ⟨o, es, ep, out e (fun q => by
    subst q
    rw [ha] at e
    cases e
    cases d), d, z⟩
  have KB : K.In (hidT s.heap H) := fun b o e => out (KX b o e) fun q z => by
    subst q
    rw [z] at e
    cases e
  have M : Mod K mg (hidT s.heap H) := ⟨KB, nsO g1, ⟨mb, nsO g2, g3⟩, g4.elim fun mc z => ⟨mc, nsO z.1, z.2⟩⟩
  have e0 : Env0 P w K mg (hidT s.heap H) callerA [] s H := { frames := rfl, mod := M, bs := fun b o e => of_hidT e, bsz := Nat.le_of_eq (hidT_size _ _), funs := trivial, frf := fun b q => absurd q List.not_mem_nil, hok := hok, bare := .of_eq g5 }
  have run := (F _ KB (nsO g1)).run callerA [] s H ⟨[.ref a], []⟩ [.ref a] [.ref a] _ _ rfl hr e0 (hb s (.ref a)) (.cons rfl .nil) (hsp H fr.sq)
  refine codeAny_mono run fun r t z => ?_
  match r, z with
  | .error e, z => exact (cx_end P w H s e t z).elim
  | .ok .next, z => exact False.elim z
  | .ok .brk, z => exact False.elim z
  | .ok .cont, z => exact False.elim z
  | .ok (.ret u), z =>
    obtain ⟨v, H', os, bare, un, hok', r', q⟩ := z
    cases (show v = V.bl true from q)
    cases (show u = Value.bool true from r')
    refine ⟨rfl, OldK.of_keep fun b o e => ?_, os, bare⟩
    cases q : H b with
    | none => exact un.keep b o e q (fun z => absurd z List.not_mem_nil) (by simp)
    | some u =>
      obtain ⟨rfl, _, o', e1, rfl⟩ := fr.dom b u q
      rw [e] at e1
      cases e1
      exact (hok' b _ (un.frzs b _ _ q)).1
end
/-- the end, where the law's def makes reprs -/
theorem walk_ofG {l : PySem.W.OpenLaw} {n k : Nat} {q : Program} {loose : List Str} {XP : (Str → Option Value) → Heap → Prop} {YP : World → Heap → Prop} {d : DefRec} {K : Params → PySem.W.Frag} {sp : World → Sp} {x : Str}
    (hn : l.most = some n) (hn2 : n ≤ sizeLine) (hdf : d.params.defaults = []) (hr : Room k callerA) (hY : ∀ (w : World) (h : Heap), YP w h → (K w.params).In h)
    (F : ∀ (w : World) (mg : Str → Option Value) (fa : Addr) (h : Heap), (K w.params).In h → h.Ns mainGlobals mg → mg d.name = some (.ref fa) →
      ∃ fd : FuncData, (∀ (s : Shared) (u : Value), BindsTo s fd ⟨[u], []⟩ [(x, u)]) ∧ ∀ base : Heap, (K w.params).In base → base.Ns mainGlobals mg → FnG l.prog w (K w.params) mg base (L2.CX l.prog w) k fa fd [x] (sp w))
    (hsp : ∀ (w : World) (H : Hp) (a : Addr) (ns : List Int), ns.length ≤ n → SqL (K w.params) H a (ns.map V.int) → sp w [.ref a] H (fun v _ => v = .bl true) E00) :
    PySem.W.WalkO q loose XP YP l.row.toRowW d [] (fun f vs => PySem.call f vs) := by
  refine Att.attach_call hn hdf fun w s0 s1 mg mb fa o pm cd doc a vs ns G Y _ _ _ hmg hobj hints hlen hg => ?_
  obtain ⟨fd, hb, hF⟩ := F w mg fa _ (hY w _ Y) G.T.g hmg
  exact law_callG (hY w _ Y) G.T.g G.T.b G.T.builtins G.T.nolimit hg hobj hints (Nat.le_trans hlen hn2) hr hF hb fun H z => hsp w H a ns hlen z
theorem law_okG {P : Program} {w : World} {K : PySem.W.Frag} {mg : Str → Option Value} {fa : Addr} {x p : Str} {k n : Nat} {g : G} (ht : ∀ ns : List Int, ns.length ≤ n → ∃ S, g [scr ns] [] = .ok (.v (.bl true)) S) (hfa : mg x = some (.ref fa)) (d : ∃ f fd, mg x = some (.ref f) ∧ (∀ us : List Value, us.length = 1 → bindArgs fd ⟨us, []⟩ = pure ([p].zip us)) ∧ ∀ base : Heap, K.In base → base.Ns mainGlobals mg → FnG P w K mg base (L2.CX P w) k f fd [p] (spG K g)) :
    ∃ fd : FuncData, (∀ (s : Shared) (v : Value), BindsTo s fd ⟨[v], []⟩ [(p, v)]) ∧ ∀ base : Heap, K.In base → base.Ns mainGlobals mg → FnG P w K mg base (L2.CX P w) k fa fd [p] (spLaw n K) := by
  obtain ⟨f, fd, h1, h2, h3⟩ := d
  have e := hfa.symm.trans h1
  cases e
  exact ⟨fd, fun s v => .of_eq (h2 [v] rfl), fun base a b => ⟨fun A outer s H args us vs Q E hg hr e0 hb r z => (h3 base a b).run A outer s H args us vs Q E hg hr e0 hb r (law_sp ht vs H Q E z)⟩⟩
end My

set_option Elab.async false
set_option linter.all false
set_option maxRecDepth 100000
set_option maxHeartbeats 4000000
namespace Law
open PySem L2 My
def top (i : Nat) : Stmt := PySem.Challenge.pw_hallclock_k13_turns_of_comings.main.body.getD i (.Pass ⟨0, 0, 0, 0⟩)
class Env where
  nd : ([] : List Addr).Nodup
structure Tx (K : PySem.W.Frag) (mg : Str → Option Value) : Prop where
  d_law_cell_at : Has K mg "_law_cell_at" "_law_cell_at" (top 3) ["_law_script", "_law_k"]
  d_law_mixed : Has K mg "_law_mixed" "_law_mixed" (top 4) ["_law_cell", "_law_k"]
  d_law_numbers_behind : Has K mg "_law_numbers_behind" "_law_numbers_behind" (top 6) ["_law_seed", "_law_many"]
  d_law_whole : Has K mg "_law_whole" "_law_whole" (top 5) ["_law_found"]
  d_comings : Has K mg "comings" "comings" (top 1) ["door"]
  d_law_door : Has K mg "_law_door" "_law_door" (top 7) ["_law_cell"]
  d_law_due : Has K mg "_law_due" "_law_due" (top 8) ["_law_door_here"]
  d_law_right : Has K mg "_law_right" "_law_right" (top 9) ["_law_door_here"]
  d_law : Has K mg "law" "law" (top 10) ["_law_script"]
  n_bool : mg "bool" = none
  n_int : mg "int" = none
  n_isinstance : mg "isinstance" = none
  n_len : mg "len" = none
  n_list : mg "list" = none
  n_max : mg "max" = none
  n_min : mg "min" = none
  n_range : mg "range" = none
  n_repr : mg "repr" = none
  n_tuple : mg "tuple" = none
section
variable [en : Env]
end

def doorA (r : Int) (ts : List Int) : D := .tup [.v (.str "door"), .v (.str "till"), .v (.int r), .tup [.v (.str "at"), .tup (ts.map I)], .v (.str "out")]
def doorD (r s m l h f : Int) : D := .tup [.v (.str "door"), .v (.str "gate"), .v (.int r), .tup [.v (.str "draws"), .v (.int s), .v (.int m), .v (.int l), .v (.int h), .v (.int f)], .v (.str "out")]
def nx (s : Int) : Int := (37 * s + 11).fmod 101
def nums : Nat → Int → List Int
  | 0, _ => []
  | n + 1, s => nx s :: nums n (nx s)
def stp (l h n t : Int) : Int := t + (l + n.fmod (h - l + 1))
def turnsL (l h : Int) : List Int → Int → List Int
  | [], _ => []
  | n :: ns, t => stp l h n t :: turnsL l h ns (stp l h n t)
theorem nums_len : ∀ (n : Nat) (s : Int), (nums n s).length = n
  | 0, _ => rfl
  | n + 1, s => congrArg (· + 1) (nums_len n (nx s))
theorem turns_len (l h : Int) : ∀ (ns : List Int) (t : Int), (turnsL l h ns t).length = ns.length
  | [], _ => rfl
  | n :: ns, t => congrArg (· + 1) (turns_len l h ns _)
theorem set_id {S : List Cell} {n : Nat} {x : Cell} (h : S[n]? = some x) : S.set n x = S := by
  obtain ⟨hn, e⟩ := List.getElem?_eq_some_iff.mp h
  rw [← e]
  exact List.set_getElem_self hn
theorem get_set {S : List Cell} {n : Nat} {x y : Cell} (h : S[n]? = some x) : (S.set n y)[n]? = some y := by
  obtain ⟨hn, e⟩ := List.getElem?_eq_some_iff.mp h
  rw [List.getElem?_set_self hn]
theorem at_last (ns : List Int) (x : Int) : atI ((ns ++ [x]).map I) (-1) = some (.v (.int x)) := by
  have e : ixN ((ns ++ [x]).map I).length (-1) = some ns.length := by
    unfold ixN
    rw [if_neg (by decide), if_pos (by simp; omega)]
    congr 1
    simp
    omega
  unfold atI
  rw [e]
  simp [I]
theorem at_zero {α : Type} (x : α) (xs : List α) : atI (x :: xs) 0 = some x := by
  unfold atI ixN
  simp
theorem gEq_li {neg : Bool} {n : Nat} {ns ms : List Int} {r : List Slot} {S : List Cell} (h : S[n]? = some (.lst (ns.map I))) : gEq neg (.d (.loc n)) (.d (.lst (ms.map I))) ⟨r, S⟩ = .ok (.v (.bl (if neg then !decide (ns = ms) else decide (ns = ms)))) ⟨r, S⟩ := gEq_datum ns ms (by
  show (match S[n]? with
    | some (.lst ds) => (pyDs ds).map PyData.list
    | _ => none) = _
  rw [h]
  show (pyDs (ns.map I)).map PyData.list = _
  rw [pyDs_ints]
  rfl) (pyO_ints ms)
theorem w_da : (("draws" : Str) = "at") = False := by simpa using (by decide +kernel : ¬ ("draws" : Str) = "at")
theorem nx_bd (s : Int) : 0 ≤ nx s ∧ nx s < 101 := fmod_bd (by decide)
section
variable {P : Program} {w : World} {K : PySem.W.Frag} {mg : Str → Option Value} {base : Heap} [en : Env]
abbrev slaw_cell_at : Stmt := (top 3)
abbrev Nlaw_cell_at : List Str := ["_law_script", "_law_k"]
theorem sclaw_cell_at : FnScope Nlaw_cell_at ["_law_script", "_law_k"] (defScope slaw_cell_at) := ⟨rfl, rfl, rfl, by decide +kernel, rfl, by decide +kernel, by decide +kernel⟩
noncomputable def den_law_cell_at : M Fl :=
    (dSeq (dIfS (dCmpT (gI iLt) (dVar 1) (okD (M.bind (dVar 0) gLen))) (dRet (dOp gIx (dVar 0) (dVar 1))) dNx)
    (dRet (dD (dC (.int 0)))))
theorem raw_law_cell_at (T : Tx K mg) : Okf P w K mg base 1 "_law_cell_at" ["_law_script", "_law_k"] (runD 2 2 den_law_cell_at) := by
  have sc := sclaw_cell_at
  exact ok_has (N := Nlaw_cell_at) T.d_law_cell_at sc rfl (by decide) fun f cdv A outer s H E hr => ⟨_, ((bd_cons (sd_if (td_cmp cLt (ed_var 1) (DD.e (dd_b1 bLen (by rfl) T.n_len (by decide +kernel) (ed_var 0))) (nomark _)) (bd_one (sd_ret (dd_ix (ed_var 0) (ed_var 1) (fun _ _ => rfl)))) bd_nil)
    (bd_one (sd_ret (ED.d ed_int)))) : BD _ _ _ _ den_law_cell_at)⟩

def g_law_cell_at : G := fun ds S => match ds with
  | [.scr es, .v (.int k)] => match intsD es with
    | some ns => if 0 ≤ k then .ok (.v (.int (ns.getD k.toNat 0))) S else .no
    | none => .no
  | _ => .no
theorem eq_law_cell_at : ∀ ds S, g_law_cell_at ds S ≠ .no → runD 2 2 den_law_cell_at ds S = g_law_cell_at ds S := fun ds S h => by
  unfold g_law_cell_at at h ⊢
  split at h
  · next es k =>
    split at h
    · next ns hn =>
      split at h
      · next hk =>
        rw [if_pos hk]
        rw [intsD_eq hn]
        by_cases hl : k < ns.length
        · have a1 : atI (ns.map I) k = some (.v (.int (ns.getD k.toNat 0))) := atI_map (f := I) hk hl
          simp only [den_law_cell_at, runD, dD, dNil, dCons, dAnd, dOr, dNotT, dAndV, dOrV, dNotV, dIf, dTru, dCmpT, dSeq, dRet, dSet, dSetN, dIfS, dNx, dDrop, dOp, dNeg, dTup, dLst, dC, dK, dVar, okD, okN, frz, dCall, ofF, dAug, dPar, dApp, dChain, dListOf, dSlL, dRev,
  M.bind, M.pure, M.no, M.ne, dName, dUnit, dConsG, dTupG, gOr, gI, gS, gAdd, gSubI, gMul, gDiv, gMod, gPow, gIx, gLen, gAbs, gInt1, gSum, gAll, gAny, gMaxL, gMinL, gTupOf, g2I, gDm, gPart, gTru, gBool, gBoolO, gEq_pair, gEq_ints, gEq_sl1, gEq_sl2, opL, gEq_int, gEq_str, gEq_bl, gEq_non, gNone, gIn, gSign, gCat, gRep, gIsi,
  iLt, iLe, iGt, iGe, My.isNon, truD, tagD, seqD, lstD, rdlD, mutD, putL, tupD, vsD, rng1X, rng2X, enuX, zipX, seqX,
  Option.bind, Option.map, Option.bind_some, Option.map_some,
  List.map_cons, List.map_nil, List.length_cons, List.length_nil, List.nil_append, List.cons_append, List.replicate, List.getElem?_cons_zero, List.getElem?_cons_succ, List.set_cons_zero, List.set_cons_succ, List.append_nil,
  if_true, if_false, ite_true, ite_false, Nat.reduceAdd, Int.reduceToNat, Int.reducePow, Nat.reducePow, Int.reduceMul, Int.reduceAdd, Int.reduceSub, Int.reduceLT, Int.reduceLE, Nat.reduceMul, Int.cast_ofNat_Int, Nat.reduceSub, Nat.reduceLT, Nat.reduceLeDiff, ne_eq, reduceCtorEq, not_false_eq_true, not_true_eq_false, Int.reduceEq, Int.reduceNeg, Bool.false_eq_true, Bool.not_true, Bool.not_false, decide_true, decide_false, true_and, and_true, false_and, and_false, or_true, true_or, or_false, false_or, id_eq, Bool.true_eq_false, decide_eq_true_eq, Bool.not_eq_true', decide_eq_false_iff_not, Bool.not_not, blsD, List.all_cons, List.all_nil, List.any_cons, List.any_nil, Bool.and_self, Bool.and_true, Bool.or_false, dFor, dLc, itL, wipeD, backD, isi_NoneType_bool, isi_NoneType_int, isi_NoneType_str, isi_NoneType_tuple, isi_NoneType_list, isi_NoneType_dict, isi_bool_bool, isi_bool_int, isi_bool_str, isi_bool_tuple, isi_bool_list, isi_bool_dict, isi_int_bool, isi_int_int, isi_int_str, isi_int_tuple, isi_int_list, isi_int_dict, isi_str_bool, isi_str_int, isi_str_str, isi_str_tuple, isi_str_list, isi_str_dict, isi_tuple_bool, isi_tuple_int, isi_tuple_str, isi_tuple_tuple, isi_tuple_list, isi_tuple_dict, isi_list_bool, isi_list_int, isi_list_str, isi_list_tuple, isi_list_list, isi_list_dict, isi_dict_bool, isi_dict_int, isi_dict_str, isi_dict_tuple, isi_dict_list, isi_dict_dict, hl, List.length_map, a1]
        · have e : ns.getD k.toNat 0 = 0 := by
            rw [List.getD_eq_getElem?_getD, List.getElem?_eq_none (by omega)]
            rfl
          simp only [den_law_cell_at, runD, dD, dNil, dCons, dAnd, dOr, dNotT, dAndV, dOrV, dNotV, dIf, dTru, dCmpT, dSeq, dRet, dSet, dSetN, dIfS, dNx, dDrop, dOp, dNeg, dTup, dLst, dC, dK, dVar, okD, okN, frz, dCall, ofF, dAug, dPar, dApp, dChain, dListOf, dSlL, dRev,
  M.bind, M.pure, M.no, M.ne, dName, dUnit, dConsG, dTupG, gOr, gI, gS, gAdd, gSubI, gMul, gDiv, gMod, gPow, gIx, gLen, gAbs, gInt1, gSum, gAll, gAny, gMaxL, gMinL, gTupOf, g2I, gDm, gPart, gTru, gBool, gBoolO, gEq_pair, gEq_ints, gEq_sl1, gEq_sl2, opL, gEq_int, gEq_str, gEq_bl, gEq_non, gNone, gIn, gSign, gCat, gRep, gIsi,
  iLt, iLe, iGt, iGe, My.isNon, truD, tagD, seqD, lstD, rdlD, mutD, putL, tupD, vsD, rng1X, rng2X, enuX, zipX, seqX,
  Option.bind, Option.map, Option.bind_some, Option.map_some,
  List.map_cons, List.map_nil, List.length_cons, List.length_nil, List.nil_append, List.cons_append, List.replicate, List.getElem?_cons_zero, List.getElem?_cons_succ, List.set_cons_zero, List.set_cons_succ, List.append_nil,
  if_true, if_false, ite_true, ite_false, Nat.reduceAdd, Int.reduceToNat, Int.reducePow, Nat.reducePow, Int.reduceMul, Int.reduceAdd, Int.reduceSub, Int.reduceLT, Int.reduceLE, Nat.reduceMul, Int.cast_ofNat_Int, Nat.reduceSub, Nat.reduceLT, Nat.reduceLeDiff, ne_eq, reduceCtorEq, not_false_eq_true, not_true_eq_false, Int.reduceEq, Int.reduceNeg, Bool.false_eq_true, Bool.not_true, Bool.not_false, decide_true, decide_false, true_and, and_true, false_and, and_false, or_true, true_or, or_false, false_or, id_eq, Bool.true_eq_false, decide_eq_true_eq, Bool.not_eq_true', decide_eq_false_iff_not, Bool.not_not, blsD, List.all_cons, List.all_nil, List.any_cons, List.any_nil, Bool.and_self, Bool.and_true, Bool.or_false, dFor, dLc, itL, wipeD, backD, isi_NoneType_bool, isi_NoneType_int, isi_NoneType_str, isi_NoneType_tuple, isi_NoneType_list, isi_NoneType_dict, isi_bool_bool, isi_bool_int, isi_bool_str, isi_bool_tuple, isi_bool_list, isi_bool_dict, isi_int_bool, isi_int_int, isi_int_str, isi_int_tuple, isi_int_list, isi_int_dict, isi_str_bool, isi_str_int, isi_str_str, isi_str_tuple, isi_str_list, isi_str_dict, isi_tuple_bool, isi_tuple_int, isi_tuple_str, isi_tuple_tuple, isi_tuple_list, isi_tuple_dict, isi_list_bool, isi_list_int, isi_list_str, isi_list_tuple, isi_list_list, isi_list_dict, isi_dict_bool, isi_dict_int, isi_dict_str, isi_dict_tuple, isi_dict_list, isi_dict_dict, hl, List.length_map, e]
      · exact absurd rfl h
    · exact absurd rfl h
  · exact absurd rfl h
theorem gc (ns : List Int) (k : Int) (S : List Cell) (h : 0 ≤ k) : g_law_cell_at [scr ns, .v (.int k)] S = .ok (.v (.int (ns.getD k.toNat 0))) S := by
  show (match intsD (ns.map I) with | some ns => if 0 ≤ k then RF.ok (.v (.int (ns.getD k.toNat 0))) S else .no | none => .no) = _
  rw [intsD_map]
  exact if_pos h
theorem ok_law_cell_at (T : Tx K mg) : Okf P w K mg base 1 "_law_cell_at" ["_law_script", "_law_k"] g_law_cell_at := (raw_law_cell_at T ).by eq_law_cell_at
abbrev slaw_mixed : Stmt := (top 4)
abbrev Nlaw_mixed : List Str := ["_law_cell", "_law_k"]
theorem sclaw_mixed : FnScope Nlaw_mixed ["_law_cell", "_law_k"] (defScope slaw_mixed) := ⟨rfl, rfl, rfl, by decide +kernel, rfl, by decide +kernel, by decide +kernel⟩
noncomputable def den_law_mixed : M Fl :=
    (dRet (dOp gMod (okD (dOp gAdd (okD (dOp gMul (okD (dOp gAdd (okD (dOp gMod (dVar 0) (dC (.int 1000003)))) (dC (.int 7)))) (okD (dOp gAdd (okD (dOp gMul (okD (dOp gMul (dC (.int 31)) (dVar 1))) (dVar 1))) (dC (.int 48271)))))) (okD (dOp gMul (okD (dOp gDiv (dVar 0) (dC (.int 1000003)))) (dC (.int 16807)))))) (dC (.int 2147483629))))
theorem raw_law_mixed (T : Tx K mg) : Okf P w K mg base 1 "_law_mixed" ["_law_cell", "_law_k"] (runD 2 2 den_law_mixed) := by
  have sc := sclaw_mixed
  exact ok_has (N := Nlaw_mixed) T.d_law_mixed sc rfl (by decide) fun f cdv A outer s H E hr => ⟨_, ((bd_one (sd_ret (dd_mod (DD.e (dd_add (DD.e (dd_mul (DD.e (dd_add (DD.e (dd_mod (ed_var 0) ed_int)) ed_int)) (DD.e (dd_add (DD.e (dd_mul (DD.e (dd_mul ed_int (ed_var 1))) (ed_var 1))) ed_int)))) (DD.e (dd_mul (DD.e (dd_div (ed_var 0) ed_int)) ed_int)))) ed_int))) : BD _ _ _ _ den_law_mixed)⟩

def mixed (c k : Int) : Int := ((c.fmod 1000003 + 7) * (31 * k * k + 48271) + c.fdiv 1000003 * 16807).fmod 2147483629
def g_law_mixed : G := fun ds S => match ds with
  | [.v (.int c), .v (.int k)] => if k.natAbs < 2 ^ 64 then .ok (.v (.int (mixed c k))) S else .no
  | _ => .no
theorem eq_law_mixed : ∀ ds S, g_law_mixed ds S ≠ .no → runD 2 2 den_law_mixed ds S = g_law_mixed ds S := fun ds S h => by
  unfold g_law_mixed at h ⊢
  split at h
  · next c k =>
    split at h
    · next hk =>
      rw [if_pos hk]
      have b := fmod_bd (c := c) (m := 1000003) (by decide)
      have m1 : mulOk 31 k := mulOk_l (by decide)
      have m2 : mulOk (31 * k) k := mulOk_r hk
      have m3 : mulOk (c.fmod 1000003 + 7) (31 * k * k + 48271) := mulOk_l (by omega)
      have m4 : mulOk (c.fdiv 1000003) 16807 := mulOk_r (by decide)
      have d1 : divOk 1000003 := divOk_s (by decide) (by decide)
      simp only [den_law_mixed, runD, dD, dNil, dCons, dAnd, dOr, dNotT, dAndV, dOrV, dNotV, dIf, dTru, dCmpT, dSeq, dRet, dSet, dSetN, dIfS, dNx, dDrop, dOp, dNeg, dTup, dLst, dC, dK, dVar, okD, okN, frz, dCall, ofF, dAug, dPar, dApp, dChain, dListOf, dSlL, dRev,
  M.bind, M.pure, M.no, M.ne, dName, dUnit, dConsG, dTupG, gOr, gI, gS, gAdd, gSubI, gMul, gDiv, gMod, gPow, gIx, gLen, gAbs, gInt1, gSum, gAll, gAny, gMaxL, gMinL, gTupOf, g2I, gDm, gPart, gTru, gBool, gBoolO, gEq_pair, gEq_ints, gEq_sl1, gEq_sl2, opL, gEq_int, gEq_str, gEq_bl, gEq_non, gNone, gIn, gSign, gCat, gRep, gIsi,
  iLt, iLe, iGt, iGe, My.isNon, truD, tagD, seqD, lstD, rdlD, mutD, putL, tupD, vsD, rng1X, rng2X, enuX, zipX, seqX,
  Option.bind, Option.map, Option.bind_some, Option.map_some,
  List.map_cons, List.map_nil, List.length_cons, List.length_nil, List.nil_append, List.cons_append, List.replicate, List.getElem?_cons_zero, List.getElem?_cons_succ, List.set_cons_zero, List.set_cons_succ, List.append_nil,
  if_true, if_false, ite_true, ite_false, Nat.reduceAdd, Int.reduceToNat, Int.reducePow, Nat.reducePow, Int.reduceMul, Int.reduceAdd, Int.reduceSub, Int.reduceLT, Int.reduceLE, Nat.reduceMul, Int.cast_ofNat_Int, Nat.reduceSub, Nat.reduceLT, Nat.reduceLeDiff, ne_eq, reduceCtorEq, not_false_eq_true, not_true_eq_false, Int.reduceEq, Int.reduceNeg, Bool.false_eq_true, Bool.not_true, Bool.not_false, decide_true, decide_false, true_and, and_true, false_and, and_false, or_true, true_or, or_false, false_or, id_eq, Bool.true_eq_false, decide_eq_true_eq, Bool.not_eq_true', decide_eq_false_iff_not, Bool.not_not, blsD, List.all_cons, List.all_nil, List.any_cons, List.any_nil, Bool.and_self, Bool.and_true, Bool.or_false, dFor, dLc, itL, wipeD, backD, isi_NoneType_bool, isi_NoneType_int, isi_NoneType_str, isi_NoneType_tuple, isi_NoneType_list, isi_NoneType_dict, isi_bool_bool, isi_bool_int, isi_bool_str, isi_bool_tuple, isi_bool_list, isi_bool_dict, isi_int_bool, isi_int_int, isi_int_str, isi_int_tuple, isi_int_list, isi_int_dict, isi_str_bool, isi_str_int, isi_str_str, isi_str_tuple, isi_str_list, isi_str_dict, isi_tuple_bool, isi_tuple_int, isi_tuple_str, isi_tuple_tuple, isi_tuple_list, isi_tuple_dict, isi_list_bool, isi_list_int, isi_list_str, isi_list_tuple, isi_list_list, isi_list_dict, isi_dict_bool, isi_dict_int, isi_dict_str, isi_dict_tuple, isi_dict_list, isi_dict_dict, m1, m2, m3, m4, d1, mixed]
    · exact absurd rfl h
  · exact absurd rfl h
theorem gx (c k : Int) (S : List Cell) (h : k.natAbs < 2 ^ 64) : g_law_mixed [.v (.int c), .v (.int k)] S = .ok (.v (.int (mixed c k))) S := if_pos h
theorem mixed_bd (c k : Int) : 0 ≤ mixed c k ∧ mixed c k < 2147483629 := fmod_bd (by decide)
theorem ok_law_mixed (T : Tx K mg) : Okf P w K mg base 1 "_law_mixed" ["_law_cell", "_law_k"] g_law_mixed := (raw_law_mixed T ).by eq_law_mixed
abbrev slaw_numbers_behind : Stmt := (top 6)
abbrev Nlaw_numbers_behind : List Str := ["_law_seed", "_law_many", "_law_found", "_law_k"]
theorem sclaw_numbers_behind : FnScope Nlaw_numbers_behind ["_law_seed", "_law_many"] (defScope slaw_numbers_behind) := ⟨rfl, rfl, rfl, by decide +kernel, rfl, by decide +kernel, by decide +kernel⟩
noncomputable def wlaw_numbers_behind1c : M Bool :=
    (dCmpT (gI iGt) (dVar 0) (dC (.int 100)))
noncomputable def wlaw_numbers_behind1b : M Fl :=
    (dSet 0 (dOp gSubI (dVar 0) (okD (dOp gMul (dC (.int 101)) (okD (M.bind (dCons (dD (dC (.int 1))) (dCons (dOp gDiv (dVar 0) (dC (.int 101))) dNil)) (g2I fMax)))))))
noncomputable def flaw_numbers_behind1b : M Fl :=
    (dSeq (dSet 0 (dOp gAdd (okD (dOp gMul (dC (.int 37)) (dVar 0))) (dC (.int 11))))
    (dSeq (dWhile wlaw_numbers_behind1c wlaw_numbers_behind1b)
    (dDrop (okD (dApp (dVar 2) (dD (dVar 0)))))))
noncomputable def den_law_numbers_behind : M Fl :=
    (dSeq (dSetN 2 (dLst dNil))
    (dSeq (dFor (M.bind (dCons (dD (dVar 1)) dNil) rng1X) (dName 3) flaw_numbers_behind1b)
    (dRet (dD (dVar 2)))))
theorem raw_law_numbers_behind (T : Tx K mg) : Okf P w K mg base 1 "_law_numbers_behind" ["_law_seed", "_law_many"] (runD 4 2 den_law_numbers_behind) := by
  have sc := sclaw_numbers_behind
  exact ok_has (N := Nlaw_numbers_behind) T.d_law_numbers_behind sc rfl (by decide) fun f cdv A outer s H E hr => ⟨_, ((bd_cons (sd_setN (i := 2) sc.nd rfl (by first | exact Or.inl rfl | exact Or.inr rfl) (en_lst ad_nil))
    (bd_cons (sd_for (passes_of rfl) rfl (id_range1 (by rfl) T.n_range (ad_cons (ED.d (ed_var 1)) ad_nil)) (gd_name (i := 3) sc.nd rfl (by first | exact Or.inl rfl | exact Or.inr rfl)) (bd_cons (sd_set (i := 0) sc.nd rfl (by first | exact Or.inl rfl | exact Or.inr rfl) (dd_add (DD.e (dd_mul ed_int (ed_var 0))) ed_int))
    (bd_cons (sd_while (passes_of rfl) (td_cmp cGt (ed_var 0) ed_int (nomark _)) (bd_one (sd_set (i := 0) sc.nd rfl (by first | exact Or.inl rfl | exact Or.inr rfl) (dd_sub (ed_var 0) (DD.e (dd_mul ed_int (DD.e (dd_b2 (call_max2' rfl) (by rfl) T.n_max (by decide +kernel) (ad_cons (ED.d ed_int) (ad_cons (dd_div (ed_var 0) ed_int) ad_nil))))))))))
    (bd_one (sd_expr (DD.e (dd_append (ed_var 2) (ED.d (ed_var 0)))))))))
    (bd_one (sd_ret (ED.d (ed_var 2)))))) : BD _ _ _ _ den_law_numbers_behind)⟩
noncomputable def g_law_numbers_behind : G := runD 4 2 den_law_numbers_behind
theorem eq_law_numbers_behind : ∀ ds S, g_law_numbers_behind ds S ≠ .no → runD 4 2 den_law_numbers_behind ds S = g_law_numbers_behind ds S := fun _ _ _ => rfl

theorem num_in (v : Int) (hv : 0 ≤ v) (hv2 : v < 10000) (x1 x2 x3 : Slot) (S : List Cell) : dWhile wlaw_numbers_behind1c wlaw_numbers_behind1b ⟨[.d (.v (.int v)), x1, x2, x3], S⟩ = .ok .nx ⟨[.d (.v (.int (v.fmod 101))), x1, x2, x3], S⟩ := by
  have d1 : divOk 101 := divOk_s (by decide) (by decide)
  by_cases c : v ≤ 100
  · have c1 : ¬ (100 < v) := by omega
    have e : v.fmod 101 = v := Int.fmod_eq_of_lt hv (by omega)
    rw [dWhile_eq, e]
    simp only [wlaw_numbers_behind1c, runD, dD, dNil, dCons, dAnd, dOr, dNotT, dAndV, dOrV, dNotV, dIf, dTru, dCmpT, dSeq, dRet, dSet, dSetN, dIfS, dNx, dDrop, dOp, dNeg, dTup, dLst, dC, dK, dVar, okD, okN, frz, dCall, ofF, dAug, dPar, dApp, dChain, dListOf, dSlL, dRev,
  M.bind, M.pure, M.no, M.ne, dName, dUnit, dConsG, dTupG, gOr, gI, gS, gAdd, gSubI, gMul, gDiv, gMod, gPow, gIx, gLen, gAbs, gInt1, gSum, gAll, gAny, gMaxL, gMinL, gTupOf, g2I, gDm, gPart, gTru, gBool, gBoolO, gEq_pair, gEq_ints, gEq_sl1, gEq_sl2, opL, gEq_int, gEq_str, gEq_bl, gEq_non, gNone, gIn, gSign, gCat, gRep, gIsi,
  iLt, iLe, iGt, iGe, My.isNon, truD, tagD, seqD, lstD, rdlD, mutD, putL, tupD, vsD, rng1X, rng2X, enuX, zipX, seqX,
  Option.bind, Option.map, Option.bind_some, Option.map_some,
  List.map_cons, List.map_nil, List.length_cons, List.length_nil, List.nil_append, List.cons_append, List.replicate, List.getElem?_cons_zero, List.getElem?_cons_succ, List.set_cons_zero, List.set_cons_succ, List.append_nil,
  if_true, if_false, ite_true, ite_false, Nat.reduceAdd, Int.reduceToNat, Int.reducePow, Nat.reducePow, Int.reduceMul, Int.reduceAdd, Int.reduceSub, Int.reduceLT, Int.reduceLE, Nat.reduceMul, Int.cast_ofNat_Int, Nat.reduceSub, Nat.reduceLT, Nat.reduceLeDiff, ne_eq, reduceCtorEq, not_false_eq_true, not_true_eq_false, Int.reduceEq, Int.reduceNeg, Bool.false_eq_true, Bool.not_true, Bool.not_false, decide_true, decide_false, true_and, and_true, false_and, and_false, or_true, true_or, or_false, false_or, id_eq, Bool.true_eq_false, decide_eq_true_eq, Bool.not_eq_true', decide_eq_false_iff_not, Bool.not_not, blsD, List.all_cons, List.all_nil, List.any_cons, List.any_nil, Bool.and_self, Bool.and_true, Bool.or_false, dFor, dLc, itL, wipeD, backD, isi_NoneType_bool, isi_NoneType_int, isi_NoneType_str, isi_NoneType_tuple, isi_NoneType_list, isi_NoneType_dict, isi_bool_bool, isi_bool_int, isi_bool_str, isi_bool_tuple, isi_bool_list, isi_bool_dict, isi_int_bool, isi_int_int, isi_int_str, isi_int_tuple, isi_int_list, isi_int_dict, isi_str_bool, isi_str_int, isi_str_str, isi_str_tuple, isi_str_list, isi_str_dict, isi_tuple_bool, isi_tuple_int, isi_tuple_str, isi_tuple_tuple, isi_tuple_list, isi_tuple_dict, isi_list_bool, isi_list_int, isi_list_str, isi_list_tuple, isi_list_list, isi_list_dict, isi_dict_bool, isi_dict_int, isi_dict_str, isi_dict_tuple, isi_dict_list, isi_dict_dict, c1]
  · have c1 : 100 < v := by omega
    have hq : 1 ≤ v.fdiv 101 := by
      have := Int.fdiv_eq_ediv_of_nonneg v (show (0 : Int) ≤ 101 by decide)
      omega
    have e : v - 101 * (fMax 1 (v.fdiv 101)) = v.fmod 101 := by
      have e1 := Int.fdiv_eq_ediv_of_nonneg v (show (0 : Int) ≤ 101 by decide)
      have e2 := Int.fmod_eq_emod_of_nonneg v (show (0 : Int) ≤ 101 by decide)
      have e3 : fMax 1 (v.fdiv 101) = v.fdiv 101 := by
        unfold fMax
        split <;> omega
      rw [e3]
      omega
    have b := fmod_bd (c := v) (m := 101) (by decide)
    have c2 : ¬ (100 < v.fmod 101) := by omega
    have m1 : mulOk 101 (fMax 1 (v.fdiv 101)) := mulOk_l (by decide)
    rw [dWhile_eq]
    simp only [wlaw_numbers_behind1c, wlaw_numbers_behind1b, runD, dD, dNil, dCons, dAnd, dOr, dNotT, dAndV, dOrV, dNotV, dIf, dTru, dCmpT, dSeq, dRet, dSet, dSetN, dIfS, dNx, dDrop, dOp, dNeg, dTup, dLst, dC, dK, dVar, okD, okN, frz, dCall, ofF, dAug, dPar, dApp, dChain, dListOf, dSlL, dRev,
  M.bind, M.pure, M.no, M.ne, dName, dUnit, dConsG, dTupG, gOr, gI, gS, gAdd, gSubI, gMul, gDiv, gMod, gPow, gIx, gLen, gAbs, gInt1, gSum, gAll, gAny, gMaxL, gMinL, gTupOf, g2I, gDm, gPart, gTru, gBool, gBoolO, gEq_pair, gEq_ints, gEq_sl1, gEq_sl2, opL, gEq_int, gEq_str, gEq_bl, gEq_non, gNone, gIn, gSign, gCat, gRep, gIsi,
  iLt, iLe, iGt, iGe, My.isNon, truD, tagD, seqD, lstD, rdlD, mutD, putL, tupD, vsD, rng1X, rng2X, enuX, zipX, seqX,
  Option.bind, Option.map, Option.bind_some, Option.map_some,
  List.map_cons, List.map_nil, List.length_cons, List.length_nil, List.nil_append, List.cons_append, List.replicate, List.getElem?_cons_zero, List.getElem?_cons_succ, List.set_cons_zero, List.set_cons_succ, List.append_nil,
  if_true, if_false, ite_true, ite_false, Nat.reduceAdd, Int.reduceToNat, Int.reducePow, Nat.reducePow, Int.reduceMul, Int.reduceAdd, Int.reduceSub, Int.reduceLT, Int.reduceLE, Nat.reduceMul, Int.cast_ofNat_Int, Nat.reduceSub, Nat.reduceLT, Nat.reduceLeDiff, ne_eq, reduceCtorEq, not_false_eq_true, not_true_eq_false, Int.reduceEq, Int.reduceNeg, Bool.false_eq_true, Bool.not_true, Bool.not_false, decide_true, decide_false, true_and, and_true, false_and, and_false, or_true, true_or, or_false, false_or, id_eq, Bool.true_eq_false, decide_eq_true_eq, Bool.not_eq_true', decide_eq_false_iff_not, Bool.not_not, blsD, List.all_cons, List.all_nil, List.any_cons, List.any_nil, Bool.and_self, Bool.and_true, Bool.or_false, dFor, dLc, itL, wipeD, backD, isi_NoneType_bool, isi_NoneType_int, isi_NoneType_str, isi_NoneType_tuple, isi_NoneType_list, isi_NoneType_dict, isi_bool_bool, isi_bool_int, isi_bool_str, isi_bool_tuple, isi_bool_list, isi_bool_dict, isi_int_bool, isi_int_int, isi_int_str, isi_int_tuple, isi_int_list, isi_int_dict, isi_str_bool, isi_str_int, isi_str_str, isi_str_tuple, isi_str_list, isi_str_dict, isi_tuple_bool, isi_tuple_int, isi_tuple_str, isi_tuple_tuple, isi_tuple_list, isi_tuple_dict, isi_list_bool, isi_list_int, isi_list_str, isi_list_tuple, isi_list_list, isi_list_dict, isi_dict_bool, isi_dict_int, isi_dict_str, isi_dict_tuple, isi_dict_list, isi_dict_dict, c1, d1, m1, e]
    rw [dWhile_eq]
    simp only [wlaw_numbers_behind1c, wlaw_numbers_behind1b, runD, dD, dNil, dCons, dAnd, dOr, dNotT, dAndV, dOrV, dNotV, dIf, dTru, dCmpT, dSeq, dRet, dSet, dSetN, dIfS, dNx, dDrop, dOp, dNeg, dTup, dLst, dC, dK, dVar, okD, okN, frz, dCall, ofF, dAug, dPar, dApp, dChain, dListOf, dSlL, dRev,
  M.bind, M.pure, M.no, M.ne, dName, dUnit, dConsG, dTupG, gOr, gI, gS, gAdd, gSubI, gMul, gDiv, gMod, gPow, gIx, gLen, gAbs, gInt1, gSum, gAll, gAny, gMaxL, gMinL, gTupOf, g2I, gDm, gPart, gTru, gBool, gBoolO, gEq_pair, gEq_ints, gEq_sl1, gEq_sl2, opL, gEq_int, gEq_str, gEq_bl, gEq_non, gNone, gIn, gSign, gCat, gRep, gIsi,
  iLt, iLe, iGt, iGe, My.isNon, truD, tagD, seqD, lstD, rdlD, mutD, putL, tupD, vsD, rng1X, rng2X, enuX, zipX, seqX,
  Option.bind, Option.map, Option.bind_some, Option.map_some,
  List.map_cons, List.map_nil, List.length_cons, List.length_nil, List.nil_append, List.cons_append, List.replicate, List.getElem?_cons_zero, List.getElem?_cons_succ, List.set_cons_zero, List.set_cons_succ, List.append_nil,
  if_true, if_false, ite_true, ite_false, Nat.reduceAdd, Int.reduceToNat, Int.reducePow, Nat.reducePow, Int.reduceMul, Int.reduceAdd, Int.reduceSub, Int.reduceLT, Int.reduceLE, Nat.reduceMul, Int.cast_ofNat_Int, Nat.reduceSub, Nat.reduceLT, Nat.reduceLeDiff, ne_eq, reduceCtorEq, not_false_eq_true, not_true_eq_false, Int.reduceEq, Int.reduceNeg, Bool.false_eq_true, Bool.not_true, Bool.not_false, decide_true, decide_false, true_and, and_true, false_and, and_false, or_true, true_or, or_false, false_or, id_eq, Bool.true_eq_false, decide_eq_true_eq, Bool.not_eq_true', decide_eq_false_iff_not, Bool.not_not, blsD, List.all_cons, List.all_nil, List.any_cons, List.any_nil, Bool.and_self, Bool.and_true, Bool.or_false, dFor, dLc, itL, wipeD, backD, isi_NoneType_bool, isi_NoneType_int, isi_NoneType_str, isi_NoneType_tuple, isi_NoneType_list, isi_NoneType_dict, isi_bool_bool, isi_bool_int, isi_bool_str, isi_bool_tuple, isi_bool_list, isi_bool_dict, isi_int_bool, isi_int_int, isi_int_str, isi_int_tuple, isi_int_list, isi_int_dict, isi_str_bool, isi_str_int, isi_str_str, isi_str_tuple, isi_str_list, isi_str_dict, isi_tuple_bool, isi_tuple_int, isi_tuple_str, isi_tuple_tuple, isi_tuple_list, isi_tuple_dict, isi_list_bool, isi_list_int, isi_list_str, isi_list_tuple, isi_list_list, isi_list_dict, isi_dict_bool, isi_dict_int, isi_dict_str, isi_dict_tuple, isi_dict_list, isi_dict_dict, c2]
theorem numsb (s m : Int) (S : List Cell) (hs : 0 ≤ s) (hs2 : s ≤ 100) (hm : 0 ≤ m) (hm2 : m ≤ 20) : g_law_numbers_behind [.v (.int s), .v (.int m)] S = .ok (.lst ((nums m.toNat s).map I)) S := by
  have L : ∀ (k : Nat) (ks : List D) (s : Int) (xs : List Int) (x3 : Slot), ks.length = k → xs.length + k < 1000 → 0 ≤ s → s ≤ 100 → ∃ s' y3, itF (dName 3) flaw_numbers_behind1b ks ⟨[.d (.v (.int s)), .d (.v (.int m)), .own (.lst (xs.map I)), x3], S⟩ = .ok .nx ⟨[.d (.v (.int s')), .d (.v (.int m)), .own (.lst ((xs ++ nums k s).map I)), y3], S⟩ := by
    intro k
    induction k with
    | zero =>
      intro ks s xs x3 hk hz h0 h1
      obtain rfl : ks = [] := List.length_eq_zero_iff.mp hk
      exact ⟨s, x3, by rw [itF_nil]; simp [nums]⟩
    | succ k ih =>
      intro ks s xs x3 hk hz h0 h1
      cases ks with
      | nil => cases hk
      | cons d ks =>
        have hk' : ks.length = k := by simpa using hk
        have b := nx_bd s
        obtain ⟨s', y3, e⟩ := ih ks (nx s) (xs ++ [nx s]) (.d d) hk' (by simp; omega) b.1 (by omega)
        refine ⟨s', y3, ?_⟩
        have w := num_in (37 * s + 11) (by omega) (by omega) (.d (.v (.int m))) (.own (.lst (xs.map I))) (.d d) S
        have m1 : mulOk 37 s := mulOk_l (by decide)
        have z : xs.length < 1000000 := by omega
        rw [List.append_assoc] at e
        rw [itF_cons (c1 := ⟨[.d (.v (.int s)), .d (.v (.int m)), .own (.lst (xs.map I)), .d d], S⟩) rfl]
        simp only [flaw_numbers_behind1b, runD, dD, dNil, dCons, dAnd, dOr, dNotT, dAndV, dOrV, dNotV, dIf, dTru, dCmpT, dSeq, dRet, dSet, dSetN, dIfS, dNx, dDrop, dOp, dNeg, dTup, dLst, dC, dK, dVar, okD, okN, frz, dCall, ofF, dAug, dPar, dApp, dChain, dListOf, dSlL, dRev,
  M.bind, M.pure, M.no, M.ne, dName, dUnit, dConsG, dTupG, gOr, gI, gS, gAdd, gSubI, gMul, gDiv, gMod, gPow, gIx, gLen, gAbs, gInt1, gSum, gAll, gAny, gMaxL, gMinL, gTupOf, g2I, gDm, gPart, gTru, gBool, gBoolO, gEq_pair, gEq_ints, gEq_sl1, gEq_sl2, opL, gEq_int, gEq_str, gEq_bl, gEq_non, gNone, gIn, gSign, gCat, gRep, gIsi,
  iLt, iLe, iGt, iGe, My.isNon, truD, tagD, seqD, lstD, rdlD, mutD, putL, tupD, vsD, rng1X, rng2X, enuX, zipX, seqX,
  Option.bind, Option.map, Option.bind_some, Option.map_some,
  List.map_cons, List.map_nil, List.length_cons, List.length_nil, List.nil_append, List.cons_append, List.replicate, List.getElem?_cons_zero, List.getElem?_cons_succ, List.set_cons_zero, List.set_cons_succ, List.append_nil,
  if_true, if_false, ite_true, ite_false, Nat.reduceAdd, Int.reduceToNat, Int.reducePow, Nat.reducePow, Int.reduceMul, Int.reduceAdd, Int.reduceSub, Int.reduceLT, Int.reduceLE, Nat.reduceMul, Int.cast_ofNat_Int, Nat.reduceSub, Nat.reduceLT, Nat.reduceLeDiff, ne_eq, reduceCtorEq, not_false_eq_true, not_true_eq_false, Int.reduceEq, Int.reduceNeg, Bool.false_eq_true, Bool.not_true, Bool.not_false, decide_true, decide_false, true_and, and_true, false_and, and_false, or_true, true_or, or_false, false_or, id_eq, Bool.true_eq_false, decide_eq_true_eq, Bool.not_eq_true', decide_eq_false_iff_not, Bool.not_not, blsD, List.all_cons, List.all_nil, List.any_cons, List.any_nil, Bool.and_self, Bool.and_true, Bool.or_false, dFor, dLc, itL, wipeD, backD, isi_NoneType_bool, isi_NoneType_int, isi_NoneType_str, isi_NoneType_tuple, isi_NoneType_list, isi_NoneType_dict, isi_bool_bool, isi_bool_int, isi_bool_str, isi_bool_tuple, isi_bool_list, isi_bool_dict, isi_int_bool, isi_int_int, isi_int_str, isi_int_tuple, isi_int_list, isi_int_dict, isi_str_bool, isi_str_int, isi_str_str, isi_str_tuple, isi_str_list, isi_str_dict, isi_tuple_bool, isi_tuple_int, isi_tuple_str, isi_tuple_tuple, isi_tuple_list, isi_tuple_dict, isi_list_bool, isi_list_int, isi_list_str, isi_list_tuple, isi_list_list, isi_list_dict, isi_dict_bool, isi_dict_int, isi_dict_str, isi_dict_tuple, isi_dict_list, isi_dict_dict, m1, w, List.length_map, z, app_int]
        exact e
  obtain ⟨s', y3, e⟩ := L m.toNat (rngD 0 m.toNat) s [] .no (by unfold rngD; simp) (by simp; omega) hs hs2
  have q1 : -4611686018427387904 ≤ m := by omega
  have q2 : m.toNat < 4611686018427387904 := by omega
  simp only [List.map_nil, List.nil_append] at e
  simp only [g_law_numbers_behind, den_law_numbers_behind, runD, dD, dNil, dCons, dAnd, dOr, dNotT, dAndV, dOrV, dNotV, dIf, dTru, dCmpT, dSeq, dRet, dSet, dSetN, dIfS, dNx, dDrop, dOp, dNeg, dTup, dLst, dC, dK, dVar, okD, okN, frz, dCall, ofF, dAug, dPar, dApp, dChain, dListOf, dSlL, dRev,
  M.bind, M.pure, M.no, M.ne, dName, dUnit, dConsG, dTupG, gOr, gI, gS, gAdd, gSubI, gMul, gDiv, gMod, gPow, gIx, gLen, gAbs, gInt1, gSum, gAll, gAny, gMaxL, gMinL, gTupOf, g2I, gDm, gPart, gTru, gBool, gBoolO, gEq_pair, gEq_ints, gEq_sl1, gEq_sl2, opL, gEq_int, gEq_str, gEq_bl, gEq_non, gNone, gIn, gSign, gCat, gRep, gIsi,
  iLt, iLe, iGt, iGe, My.isNon, truD, tagD, seqD, lstD, rdlD, mutD, putL, tupD, vsD, rng1X, rng2X, enuX, zipX, seqX,
  Option.bind, Option.map, Option.bind_some, Option.map_some,
  List.map_cons, List.map_nil, List.length_cons, List.length_nil, List.nil_append, List.cons_append, List.replicate, List.getElem?_cons_zero, List.getElem?_cons_succ, List.set_cons_zero, List.set_cons_succ, List.append_nil,
  if_true, if_false, ite_true, ite_false, Nat.reduceAdd, Int.reduceToNat, Int.reducePow, Nat.reducePow, Int.reduceMul, Int.reduceAdd, Int.reduceSub, Int.reduceLT, Int.reduceLE, Nat.reduceMul, Int.cast_ofNat_Int, Nat.reduceSub, Nat.reduceLT, Nat.reduceLeDiff, ne_eq, reduceCtorEq, not_false_eq_true, not_true_eq_false, Int.reduceEq, Int.reduceNeg, Bool.false_eq_true, Bool.not_true, Bool.not_false, decide_true, decide_false, true_and, and_true, false_and, and_false, or_true, true_or, or_false, false_or, id_eq, Bool.true_eq_false, decide_eq_true_eq, Bool.not_eq_true', decide_eq_false_iff_not, Bool.not_not, blsD, List.all_cons, List.all_nil, List.any_cons, List.any_nil, Bool.and_self, Bool.and_true, Bool.or_false, dFor, dLc, itL, wipeD, backD, isi_NoneType_bool, isi_NoneType_int, isi_NoneType_str, isi_NoneType_tuple, isi_NoneType_list, isi_NoneType_dict, isi_bool_bool, isi_bool_int, isi_bool_str, isi_bool_tuple, isi_bool_list, isi_bool_dict, isi_int_bool, isi_int_int, isi_int_str, isi_int_tuple, isi_int_list, isi_int_dict, isi_str_bool, isi_str_int, isi_str_str, isi_str_tuple, isi_str_list, isi_str_dict, isi_tuple_bool, isi_tuple_int, isi_tuple_str, isi_tuple_tuple, isi_tuple_list, isi_tuple_dict, isi_list_bool, isi_list_int, isi_list_str, isi_list_tuple, isi_list_list, isi_list_dict, isi_dict_bool, isi_dict_int, isi_dict_str, isi_dict_tuple, isi_dict_list, isi_dict_dict, q1, q2, e]
theorem ok_law_numbers_behind (T : Tx K mg) : Okf P w K mg base 1 "_law_numbers_behind" ["_law_seed", "_law_many"] g_law_numbers_behind := (raw_law_numbers_behind T ).by eq_law_numbers_behind
abbrev slaw_whole : Stmt := (top 5)
abbrev Nlaw_whole : List Str := ["_law_found"]
theorem sclaw_whole : FnScope Nlaw_whole ["_law_found"] (defScope slaw_whole) := ⟨rfl, rfl, rfl, by decide +kernel, rfl, by decide +kernel, by decide +kernel⟩
noncomputable def den_law_whole : M Fl :=
    (dRet (dD (dAndV (okD (M.bind (dD (dVar 0)) (gIsiS "int"))) (dNotV (okD (M.bind (dD (dVar 0)) (gIsiS "bool")))))))
theorem raw_law_whole (T : Tx K mg) : Okf P w K mg base 1 "_law_whole" ["_law_found"] (runD 1 1 den_law_whole) := by
  have sc := sclaw_whole
  exact ok_has (N := Nlaw_whole) T.d_law_whole sc rfl (by decide) fun f cdv A outer s H E hr => ⟨_, ((bd_one (sd_ret (ED.d (ed_and (DD.e (dd_isiS (x := "int") (cl := "int") (by rfl) T.n_isinstance (by decide +kernel) (ED.d (ed_var 0)) (by rfl) T.n_int (by decide +kernel))) (ed_one (ed_not (DD.e (dd_isiS (x := "bool") (cl := "bool") (by rfl) T.n_isinstance (by decide +kernel) (ED.d (ed_var 0)) (by rfl) T.n_bool (by decide +kernel))))))))) : BD _ _ _ _ den_law_whole)⟩
noncomputable def g_law_whole : G := runD 1 1 den_law_whole
theorem eq_law_whole : ∀ ds S, g_law_whole ds S ≠ .no → runD 1 1 den_law_whole ds S = g_law_whole ds S := fun _ _ _ => rfl

theorem whole (i : Int) (S : List Cell) : g_law_whole [.v (.int i)] S = .ok (.v (.bl true)) S := by
  simp only [g_law_whole, den_law_whole, gIsiS, tagS, runD, dD, dNil, dCons, dAnd, dOr, dNotT, dAndV, dOrV, dNotV, dIf, dTru, dCmpT, dSeq, dRet, dSet, dSetN, dIfS, dNx, dDrop, dOp, dNeg, dTup, dLst, dC, dK, dVar, okD, okN, frz, dCall, ofF, dAug, dPar, dApp, dChain, dListOf, dSlL, dRev,
  M.bind, M.pure, M.no, M.ne, dName, dUnit, dConsG, dTupG, gOr, gI, gS, gAdd, gSubI, gMul, gDiv, gMod, gPow, gIx, gLen, gAbs, gInt1, gSum, gAll, gAny, gMaxL, gMinL, gTupOf, g2I, gDm, gPart, gTru, gBool, gBoolO, gEq_pair, gEq_ints, gEq_sl1, gEq_sl2, opL, gEq_int, gEq_str, gEq_bl, gEq_non, gNone, gIn, gSign, gCat, gRep, gIsi,
  iLt, iLe, iGt, iGe, My.isNon, truD, tagD, seqD, lstD, rdlD, mutD, putL, tupD, vsD, rng1X, rng2X, enuX, zipX, seqX,
  Option.bind, Option.map, Option.bind_some, Option.map_some,
  List.map_cons, List.map_nil, List.length_cons, List.length_nil, List.nil_append, List.cons_append, List.replicate, List.getElem?_cons_zero, List.getElem?_cons_succ, List.set_cons_zero, List.set_cons_succ, List.append_nil,
  if_true, if_false, ite_true, ite_false, Nat.reduceAdd, Int.reduceToNat, Int.reducePow, Nat.reducePow, Int.reduceMul, Int.reduceAdd, Int.reduceSub, Int.reduceLT, Int.reduceLE, Nat.reduceMul, Int.cast_ofNat_Int, Nat.reduceSub, Nat.reduceLT, Nat.reduceLeDiff, ne_eq, reduceCtorEq, not_false_eq_true, not_true_eq_false, Int.reduceEq, Int.reduceNeg, Bool.false_eq_true, Bool.not_true, Bool.not_false, decide_true, decide_false, true_and, and_true, false_and, and_false, or_true, true_or, or_false, false_or, id_eq, Bool.true_eq_false, decide_eq_true_eq, Bool.not_eq_true', decide_eq_false_iff_not, Bool.not_not, blsD, List.all_cons, List.all_nil, List.any_cons, List.any_nil, Bool.and_self, Bool.and_true, Bool.or_false, dFor, dLc, itL, wipeD, backD, isi_NoneType_bool, isi_NoneType_int, isi_NoneType_str, isi_NoneType_tuple, isi_NoneType_list, isi_NoneType_dict, isi_bool_bool, isi_bool_int, isi_bool_str, isi_bool_tuple, isi_bool_list, isi_bool_dict, isi_int_bool, isi_int_int, isi_int_str, isi_int_tuple, isi_int_list, isi_int_dict, isi_str_bool, isi_str_int, isi_str_str, isi_str_tuple, isi_str_list, isi_str_dict, isi_tuple_bool, isi_tuple_int, isi_tuple_str, isi_tuple_tuple, isi_tuple_list, isi_tuple_dict, isi_list_bool, isi_list_int, isi_list_str, isi_list_tuple, isi_list_list, isi_list_dict, isi_dict_bool, isi_dict_int, isi_dict_str, isi_dict_tuple, isi_dict_list, isi_dict_dict]
theorem ok_law_whole (T : Tx K mg) : Okf P w K mg base 1 "_law_whole" ["_law_found"] g_law_whole := (raw_law_whole T ).by eq_law_whole
abbrev scomings : Stmt := (top 1)
abbrev Ncomings : List Str := ["door", "told", "word", "number", "many", "low", "high", "turn", "found"]
theorem sccomings : FnScope Ncomings ["door"] (defScope scomings) := ⟨rfl, rfl, rfl, by decide +kernel, rfl, by decide +kernel, by decide +kernel⟩
noncomputable def wcomings1c : M Bool :=
    (dCmpT (gI iLt) (okD (M.bind (dVar 8) gLen)) (dVar 4))
noncomputable def wcomings1b : M Fl :=
    (dSeq (dSet 3 (dOp gMod (okD (dOp gAdd (okD (dOp gMul (dC (.int 37)) (dVar 3))) (dC (.int 11)))) (dC (.int 101))))
    (dSeq (dAug 7 (gI fun i j => some (.int (i + j))) (okD (dOp gAdd (dVar 5) (okD (dOp gMod (dVar 3) (okD (dOp gAdd (okD (dOp gSubI (dVar 6) (dVar 5))) (dC (.int 1)))))))))
    (dDrop (okD (dApp (dVar 8) (dD (dVar 7)))))))
noncomputable def den_comings : M Fl :=
    (dSeq (dSet 1 (dOp gIx (dVar 0) (dC (.int 3))))
    (dSeq (dIfS (dCmpT (gEq false) (okD (dOp gIx (dVar 1) (dC (.int 0)))) (dC (.str "at"))) (dRet (dSt (dListOf (okD (dOp gIx (dVar 1) (dC (.int 1))))))) dNx)
    (dSeq (M.bind (dD (dVar 1)) fun x => M.bind (M.ne ((dTupG 6 (dConsG (dName 2) (dConsG (dName 3) (dConsG (dName 4) (dConsG (dName 5) (dConsG (dName 6) (dConsG (dName 7) dUnit))))))) x)) fun _ => M.pure .nx)
    (dSeq (dSet 8 (dSt (dLst (dCons (dD (dVar 7)) dNil))))
    (dSeq (dWhile wcomings1c wcomings1b)
    (dRet (dD (dVar 8))))))))
theorem raw_comings (T : Tx K mg) : Okf P w K mg base 1 "comings" ["door"] (runD 9 1 den_comings) := by
  have sc := sccomings
  exact ok_has (N := Ncomings) T.d_comings sc rfl (by decide) fun f cdv A outer s H E hr => ⟨_, ((bd_cons (sd_set (i := 1) sc.nd rfl (by first | exact Or.inl rfl | exact Or.inr rfl) (dd_ix (ed_var 0) ed_int (fun _ _ => rfl)))
    (bd_cons (sd_if (td_cmp (cEq hr.units) (DD.e (dd_ix (ed_var 1) ed_int (fun _ _ => rfl))) ed_str (nomark _)) (bd_one (sd_ret (dd_st (en_listOf (by rfl) T.n_list (by decide +kernel) (DD.e (dd_ix (ed_var 1) ed_int (fun _ _ => rfl))))))) bd_nil)
    (bd_cons (sd_asg (ED.d (ed_var 1)) (gd_tup rfl (gds_cons (gd_name (i := 2) sc.nd rfl (by first | exact Or.inl rfl | exact Or.inr rfl)) (gds_cons (gd_name (i := 3) sc.nd rfl (by first | exact Or.inl rfl | exact Or.inr rfl)) (gds_cons (gd_name (i := 4) sc.nd rfl (by first | exact Or.inl rfl | exact Or.inr rfl)) (gds_cons (gd_name (i := 5) sc.nd rfl (by first | exact Or.inl rfl | exact Or.inr rfl)) (gds_cons (gd_name (i := 6) sc.nd rfl (by first | exact Or.inl rfl | exact Or.inr rfl)) (gds_cons (gd_name (i := 7) sc.nd rfl (by first | exact Or.inl rfl | exact Or.inr rfl)) gds_nil))))))))
    (bd_cons (sd_set (i := 8) sc.nd rfl (by first | exact Or.inl rfl | exact Or.inr rfl) (dd_st (en_lst (ad_cons (ED.d (ed_var 7)) ad_nil))))
    (bd_cons (sd_while (passes_of rfl) (td_cmp cLt (DD.e (dd_b1 bLen (by rfl) T.n_len (by decide +kernel) (ed_var 8))) (ed_var 4) (nomark _)) (bd_cons (sd_set (i := 3) sc.nd rfl (by first | exact Or.inl rfl | exact Or.inr rfl) (dd_mod (DD.e (dd_add (DD.e (dd_mul ed_int (ed_var 3))) ed_int)) ed_int))
    (bd_cons (sd_aug (i := 7) sc.nd rfl (by first | exact Or.inl rfl | exact Or.inr rfl) ip_add r2_ipadd (DD.e (dd_add (ed_var 5) (DD.e (dd_mod (ed_var 3) (DD.e (dd_add (DD.e (dd_sub (ed_var 6) (ed_var 5))) ed_int)))))))
    (bd_one (sd_expr (DD.e (dd_append (ed_var 8) (ED.d (ed_var 7)))))))))
    (bd_one (sd_ret (ED.d (ed_var 8))))))))) : BD _ _ _ _ den_comings)⟩
noncomputable def g_comings : G := runD 9 1 den_comings
theorem eq_comings : ∀ ds S, g_comings ds S ≠ .no → runD 9 1 den_comings ds S = g_comings ds S := fun _ _ _ => rfl

theorem com_loop (l h m : Int) (hl : 0 ≤ l) (hh : l ≤ h) (h5 : h ≤ 50) (x0 x1 x2 : Slot) (n : Nat) : ∀ (k : Nat) (s t : Int) (xs : List Int) (S : List Cell), S[n]? = some (.lst (xs.map I)) → xs.length + k < 1000 → ((xs.length + k : Nat) : Int) = m →
    ∃ s' t', dWhile wcomings1c wcomings1b ⟨[x0, x1, x2, .d (.v (.int s)), .d (.v (.int m)), .d (.v (.int l)), .d (.v (.int h)), .d (.v (.int t)), .d (.loc n)], S⟩ = .ok .nx ⟨[x0, x1, x2, .d (.v (.int s')), .d (.v (.int m)), .d (.v (.int l)), .d (.v (.int h)), .d (.v (.int t')), .d (.loc n)], S.set n (.lst ((xs ++ turnsL l h (nums k s) t).map I))⟩ := by
  intro k
  induction k with
  | zero =>
    intro s t xs S hS hz hm
    refine ⟨s, t, ?_⟩
    have c : ¬ ((xs.length : Int) < m) := by omega
    have e0 : xs ++ turnsL l h (nums 0 s) t = xs := List.append_nil xs
    rw [dWhile_eq, e0, set_id hS]
    simp only [wcomings1c, wcomings1b, runD, dD, dNil, dCons, dAnd, dOr, dNotT, dAndV, dOrV, dNotV, dIf, dTru, dCmpT, dSeq, dRet, dSet, dSetN, dIfS, dNx, dDrop, dOp, dNeg, dTup, dLst, dC, dK, dVar, okD, okN, frz, dCall, ofF, dAug, dPar, dApp, dChain, dListOf, dSlL, dRev,
  M.bind, M.pure, M.no, M.ne, dName, dUnit, dConsG, dTupG, gOr, gI, gS, gAdd, gSubI, gMul, gDiv, gMod, gPow, gIx, gLen, gAbs, gInt1, gSum, gAll, gAny, gMaxL, gMinL, gTupOf, g2I, gDm, gPart, gTru, gBool, gBoolO, gEq_pair, gEq_ints, gEq_sl1, gEq_sl2, opL, gEq_int, gEq_str, gEq_bl, gEq_non, gNone, gIn, gSign, gCat, gRep, gIsi,
  iLt, iLe, iGt, iGe, My.isNon, truD, tagD, seqD, lstD, rdlD, mutD, putL, tupD, vsD, rng1X, rng2X, enuX, zipX, seqX,
  Option.bind, Option.map, Option.bind_some, Option.map_some,
  List.map_cons, List.map_nil, List.length_cons, List.length_nil, List.nil_append, List.cons_append, List.replicate, List.getElem?_cons_zero, List.getElem?_cons_succ, List.set_cons_zero, List.set_cons_succ, List.append_nil,
  if_true, if_false, ite_true, ite_false, Nat.reduceAdd, Int.reduceToNat, Int.reducePow, Nat.reducePow, Int.reduceMul, Int.reduceAdd, Int.reduceSub, Int.reduceLT, Int.reduceLE, Nat.reduceMul, Int.cast_ofNat_Int, Nat.reduceSub, Nat.reduceLT, Nat.reduceLeDiff, ne_eq, reduceCtorEq, not_false_eq_true, not_true_eq_false, Int.reduceEq, Int.reduceNeg, Bool.false_eq_true, Bool.not_true, Bool.not_false, decide_true, decide_false, true_and, and_true, false_and, and_false, or_true, true_or, or_false, false_or, id_eq, Bool.true_eq_false, decide_eq_true_eq, Bool.not_eq_true', decide_eq_false_iff_not, Bool.not_not, blsD, List.all_cons, List.all_nil, List.any_cons, List.any_nil, Bool.and_self, Bool.and_true, Bool.or_false, dFor, dLc, itL, wipeD, backD, isi_NoneType_bool, isi_NoneType_int, isi_NoneType_str, isi_NoneType_tuple, isi_NoneType_list, isi_NoneType_dict, isi_bool_bool, isi_bool_int, isi_bool_str, isi_bool_tuple, isi_bool_list, isi_bool_dict, isi_int_bool, isi_int_int, isi_int_str, isi_int_tuple, isi_int_list, isi_int_dict, isi_str_bool, isi_str_int, isi_str_str, isi_str_tuple, isi_str_list, isi_str_dict, isi_tuple_bool, isi_tuple_int, isi_tuple_str, isi_tuple_tuple, isi_tuple_list, isi_tuple_dict, isi_list_bool, isi_list_int, isi_list_str, isi_list_tuple, isi_list_list, isi_list_dict, isi_dict_bool, isi_dict_int, isi_dict_str, isi_dict_tuple, isi_dict_list, isi_dict_dict, dPut, dSt, dForA, dForX, hS, List.length_map, c]
  | succ k ih =>
    intro s t xs S hS hz hm
    have c : (xs.length : Int) < m := by omega
    have m1 : mulOk 37 s := mulOk_l (by decide)
    have d1 : divOk 101 := divOk_s (by decide) (by decide)
    have d2 : (h - l + 1 = 0) = False := by
      simp
      omega
    have z : xs.length < 1000000 := by omega
    obtain ⟨s', t', e⟩ := ih ((37 * s + 11).fmod 101) (t + (l + ((37 * s + 11).fmod 101).fmod (h - l + 1))) (xs ++ [t + (l + ((37 * s + 11).fmod 101).fmod (h - l + 1))]) (S.set n (.lst ((xs ++ [t + (l + ((37 * s + 11).fmod 101).fmod (h - l + 1))]).map I))) (get_set hS) (by simp; omega) (by simp; omega)
    refine ⟨s', t', ?_⟩
    rw [List.set_set, List.append_assoc] at e
    rw [dWhile_eq]
    simp only [wcomings1c, wcomings1b, runD, dD, dNil, dCons, dAnd, dOr, dNotT, dAndV, dOrV, dNotV, dIf, dTru, dCmpT, dSeq, dRet, dSet, dSetN, dIfS, dNx, dDrop, dOp, dNeg, dTup, dLst, dC, dK, dVar, okD, okN, frz, dCall, ofF, dAug, dPar, dApp, dChain, dListOf, dSlL, dRev,
  M.bind, M.pure, M.no, M.ne, dName, dUnit, dConsG, dTupG, gOr, gI, gS, gAdd, gSubI, gMul, gDiv, gMod, gPow, gIx, gLen, gAbs, gInt1, gSum, gAll, gAny, gMaxL, gMinL, gTupOf, g2I, gDm, gPart, gTru, gBool, gBoolO, gEq_pair, gEq_ints, gEq_sl1, gEq_sl2, opL, gEq_int, gEq_str, gEq_bl, gEq_non, gNone, gIn, gSign, gCat, gRep, gIsi,
  iLt, iLe, iGt, iGe, My.isNon, truD, tagD, seqD, lstD, rdlD, mutD, putL, tupD, vsD, rng1X, rng2X, enuX, zipX, seqX,
  Option.bind, Option.map, Option.bind_some, Option.map_some,
  List.map_cons, List.map_nil, List.length_cons, List.length_nil, List.nil_append, List.cons_append, List.replicate, List.getElem?_cons_zero, List.getElem?_cons_succ, List.set_cons_zero, List.set_cons_succ, List.append_nil,
  if_true, if_false, ite_true, ite_false, Nat.reduceAdd, Int.reduceToNat, Int.reducePow, Nat.reducePow, Int.reduceMul, Int.reduceAdd, Int.reduceSub, Int.reduceLT, Int.reduceLE, Nat.reduceMul, Int.cast_ofNat_Int, Nat.reduceSub, Nat.reduceLT, Nat.reduceLeDiff, ne_eq, reduceCtorEq, not_false_eq_true, not_true_eq_false, Int.reduceEq, Int.reduceNeg, Bool.false_eq_true, Bool.not_true, Bool.not_false, decide_true, decide_false, true_and, and_true, false_and, and_false, or_true, true_or, or_false, false_or, id_eq, Bool.true_eq_false, decide_eq_true_eq, Bool.not_eq_true', decide_eq_false_iff_not, Bool.not_not, blsD, List.all_cons, List.all_nil, List.any_cons, List.any_nil, Bool.and_self, Bool.and_true, Bool.or_false, dFor, dLc, itL, wipeD, backD, isi_NoneType_bool, isi_NoneType_int, isi_NoneType_str, isi_NoneType_tuple, isi_NoneType_list, isi_NoneType_dict, isi_bool_bool, isi_bool_int, isi_bool_str, isi_bool_tuple, isi_bool_list, isi_bool_dict, isi_int_bool, isi_int_int, isi_int_str, isi_int_tuple, isi_int_list, isi_int_dict, isi_str_bool, isi_str_int, isi_str_str, isi_str_tuple, isi_str_list, isi_str_dict, isi_tuple_bool, isi_tuple_int, isi_tuple_str, isi_tuple_tuple, isi_tuple_list, isi_tuple_dict, isi_list_bool, isi_list_int, isi_list_str, isi_list_tuple, isi_list_list, isi_list_dict, isi_dict_bool, isi_dict_int, isi_dict_str, isi_dict_tuple, isi_dict_list, isi_dict_dict, dPut, dSt, dForA, dForX, hS, List.length_map, c, m1, d1, d2, z, app_int]
    exact e
theorem com_at (r : Int) (ts : List Int) (S : List Cell) : g_comings [doorA r ts] S = .ok (.loc S.length) (S ++ [.lst (ts.map I)]) := by
  have a1 : atI ([.v (.str "door"), .v (.str "till"), .v (.int r), .tup [.v (.str "at"), .tup (ts.map I)], .v (.str "out")] : List D) 3 = some (.tup [.v (.str "at"), .tup (ts.map I)]) := rfl
  have a2 : atI ([.v (.str "at"), .tup (ts.map I)] : List D) 0 = some (.v (.str "at")) := rfl
  have a3 : atI ([.v (.str "at"), .tup (ts.map I)] : List D) 1 = some (.tup (ts.map I)) := rfl
  simp only [g_comings, den_comings, doorA, runD, dD, dNil, dCons, dAnd, dOr, dNotT, dAndV, dOrV, dNotV, dIf, dTru, dCmpT, dSeq, dRet, dSet, dSetN, dIfS, dNx, dDrop, dOp, dNeg, dTup, dLst, dC, dK, dVar, okD, okN, frz, dCall, ofF, dAug, dPar, dApp, dChain, dListOf, dSlL, dRev,
  M.bind, M.pure, M.no, M.ne, dName, dUnit, dConsG, dTupG, gOr, gI, gS, gAdd, gSubI, gMul, gDiv, gMod, gPow, gIx, gLen, gAbs, gInt1, gSum, gAll, gAny, gMaxL, gMinL, gTupOf, g2I, gDm, gPart, gTru, gBool, gBoolO, gEq_pair, gEq_ints, gEq_sl1, gEq_sl2, opL, gEq_int, gEq_str, gEq_bl, gEq_non, gNone, gIn, gSign, gCat, gRep, gIsi,
  iLt, iLe, iGt, iGe, My.isNon, truD, tagD, seqD, lstD, rdlD, mutD, putL, tupD, vsD, rng1X, rng2X, enuX, zipX, seqX,
  Option.bind, Option.map, Option.bind_some, Option.map_some,
  List.map_cons, List.map_nil, List.length_cons, List.length_nil, List.nil_append, List.cons_append, List.replicate, List.getElem?_cons_zero, List.getElem?_cons_succ, List.set_cons_zero, List.set_cons_succ, List.append_nil,
  if_true, if_false, ite_true, ite_false, Nat.reduceAdd, Int.reduceToNat, Int.reducePow, Nat.reducePow, Int.reduceMul, Int.reduceAdd, Int.reduceSub, Int.reduceLT, Int.reduceLE, Nat.reduceMul, Int.cast_ofNat_Int, Nat.reduceSub, Nat.reduceLT, Nat.reduceLeDiff, ne_eq, reduceCtorEq, not_false_eq_true, not_true_eq_false, Int.reduceEq, Int.reduceNeg, Bool.false_eq_true, Bool.not_true, Bool.not_false, decide_true, decide_false, true_and, and_true, false_and, and_false, or_true, true_or, or_false, false_or, id_eq, Bool.true_eq_false, decide_eq_true_eq, Bool.not_eq_true', decide_eq_false_iff_not, Bool.not_not, blsD, List.all_cons, List.all_nil, List.any_cons, List.any_nil, Bool.and_self, Bool.and_true, Bool.or_false, dFor, dLc, itL, wipeD, backD, isi_NoneType_bool, isi_NoneType_int, isi_NoneType_str, isi_NoneType_tuple, isi_NoneType_list, isi_NoneType_dict, isi_bool_bool, isi_bool_int, isi_bool_str, isi_bool_tuple, isi_bool_list, isi_bool_dict, isi_int_bool, isi_int_int, isi_int_str, isi_int_tuple, isi_int_list, isi_int_dict, isi_str_bool, isi_str_int, isi_str_str, isi_str_tuple, isi_str_list, isi_str_dict, isi_tuple_bool, isi_tuple_int, isi_tuple_str, isi_tuple_tuple, isi_tuple_list, isi_tuple_dict, isi_list_bool, isi_list_int, isi_list_str, isi_list_tuple, isi_list_list, isi_list_dict, isi_dict_bool, isi_dict_int, isi_dict_str, isi_dict_tuple, isi_dict_list, isi_dict_dict, dPut, dSt, dForA, dForX, a1, a2, a3]
theorem com_dr (r s m l h f : Int) (S : List Cell) (hm : 1 ≤ m) (hm2 : m ≤ 20) (hl : 0 ≤ l) (hh : l ≤ h) (h5 : h ≤ 50) : g_comings [doorD r s m l h f] S = .ok (.loc S.length) (S ++ [.lst ((f :: turnsL l h (nums (m.toNat - 1) s) f).map I)]) := by
  have a1 : atI ([.v (.str "door"), .v (.str "gate"), .v (.int r), .tup [.v (.str "draws"), .v (.int s), .v (.int m), .v (.int l), .v (.int h), .v (.int f)], .v (.str "out")] : List D) 3 = some (.tup [.v (.str "draws"), .v (.int s), .v (.int m), .v (.int l), .v (.int h), .v (.int f)]) := rfl
  have a2 : atI ([.v (.str "draws"), .v (.int s), .v (.int m), .v (.int l), .v (.int h), .v (.int f)] : List D) 0 = some (.v (.str "draws")) := rfl
  obtain ⟨s', t', e⟩ := com_loop l h m hl hh h5 (.d (doorD r s m l h f)) (.d (.tup [.v (.str "draws"), .v (.int s), .v (.int m), .v (.int l), .v (.int h), .v (.int f)])) (.d (.v (.str "draws"))) S.length (m.toNat - 1) s f [f] (S ++ [.lst ([f].map I)]) (tl_get S _) (by simp; omega) (by simp; omega)
  rw [tl_set] at e
  simp only [doorD, List.map_cons, List.map_nil] at e
  simp only [g_comings, den_comings, doorD, runD, dD, dNil, dCons, dAnd, dOr, dNotT, dAndV, dOrV, dNotV, dIf, dTru, dCmpT, dSeq, dRet, dSet, dSetN, dIfS, dNx, dDrop, dOp, dNeg, dTup, dLst, dC, dK, dVar, okD, okN, frz, dCall, ofF, dAug, dPar, dApp, dChain, dListOf, dSlL, dRev,
  M.bind, M.pure, M.no, M.ne, dName, dUnit, dConsG, dTupG, gOr, gI, gS, gAdd, gSubI, gMul, gDiv, gMod, gPow, gIx, gLen, gAbs, gInt1, gSum, gAll, gAny, gMaxL, gMinL, gTupOf, g2I, gDm, gPart, gTru, gBool, gBoolO, gEq_pair, gEq_ints, gEq_sl1, gEq_sl2, opL, gEq_int, gEq_str, gEq_bl, gEq_non, gNone, gIn, gSign, gCat, gRep, gIsi,
  iLt, iLe, iGt, iGe, My.isNon, truD, tagD, seqD, lstD, rdlD, mutD, putL, tupD, vsD, rng1X, rng2X, enuX, zipX, seqX,
  Option.bind, Option.map, Option.bind_some, Option.map_some,
  List.map_cons, List.map_nil, List.length_cons, List.length_nil, List.nil_append, List.cons_append, List.replicate, List.getElem?_cons_zero, List.getElem?_cons_succ, List.set_cons_zero, List.set_cons_succ, List.append_nil,
  if_true, if_false, ite_true, ite_false, Nat.reduceAdd, Int.reduceToNat, Int.reducePow, Nat.reducePow, Int.reduceMul, Int.reduceAdd, Int.reduceSub, Int.reduceLT, Int.reduceLE, Nat.reduceMul, Int.cast_ofNat_Int, Nat.reduceSub, Nat.reduceLT, Nat.reduceLeDiff, ne_eq, reduceCtorEq, not_false_eq_true, not_true_eq_false, Int.reduceEq, Int.reduceNeg, Bool.false_eq_true, Bool.not_true, Bool.not_false, decide_true, decide_false, true_and, and_true, false_and, and_false, or_true, true_or, or_false, false_or, id_eq, Bool.true_eq_false, decide_eq_true_eq, Bool.not_eq_true', decide_eq_false_iff_not, Bool.not_not, blsD, List.all_cons, List.all_nil, List.any_cons, List.any_nil, Bool.and_self, Bool.and_true, Bool.or_false, dFor, dLc, itL, wipeD, backD, isi_NoneType_bool, isi_NoneType_int, isi_NoneType_str, isi_NoneType_tuple, isi_NoneType_list, isi_NoneType_dict, isi_bool_bool, isi_bool_int, isi_bool_str, isi_bool_tuple, isi_bool_list, isi_bool_dict, isi_int_bool, isi_int_int, isi_int_str, isi_int_tuple, isi_int_list, isi_int_dict, isi_str_bool, isi_str_int, isi_str_str, isi_str_tuple, isi_str_list, isi_str_dict, isi_tuple_bool, isi_tuple_int, isi_tuple_str, isi_tuple_tuple, isi_tuple_list, isi_tuple_dict, isi_list_bool, isi_list_int, isi_list_str, isi_list_tuple, isi_list_list, isi_list_dict, isi_dict_bool, isi_dict_int, isi_dict_str, isi_dict_tuple, isi_dict_list, isi_dict_dict, dPut, dSt, dForA, dForX, a1, a2, w_da, I]
  rw [e]
  simp only [runD, dD, dNil, dCons, dAnd, dOr, dNotT, dAndV, dOrV, dNotV, dIf, dTru, dCmpT, dSeq, dRet, dSet, dSetN, dIfS, dNx, dDrop, dOp, dNeg, dTup, dLst, dC, dK, dVar, okD, okN, frz, dCall, ofF, dAug, dPar, dApp, dChain, dListOf, dSlL, dRev,
  M.bind, M.pure, M.no, M.ne, dName, dUnit, dConsG, dTupG, gOr, gI, gS, gAdd, gSubI, gMul, gDiv, gMod, gPow, gIx, gLen, gAbs, gInt1, gSum, gAll, gAny, gMaxL, gMinL, gTupOf, g2I, gDm, gPart, gTru, gBool, gBoolO, gEq_pair, gEq_ints, gEq_sl1, gEq_sl2, opL, gEq_int, gEq_str, gEq_bl, gEq_non, gNone, gIn, gSign, gCat, gRep, gIsi,
  iLt, iLe, iGt, iGe, My.isNon, truD, tagD, seqD, lstD, rdlD, mutD, putL, tupD, vsD, rng1X, rng2X, enuX, zipX, seqX,
  Option.bind, Option.map, Option.bind_some, Option.map_some,
  List.map_cons, List.map_nil, List.length_cons, List.length_nil, List.nil_append, List.cons_append, List.replicate, List.getElem?_cons_zero, List.getElem?_cons_succ, List.set_cons_zero, List.set_cons_succ, List.append_nil,
  if_true, if_false, ite_true, ite_false, Nat.reduceAdd, Int.reduceToNat, Int.reducePow, Nat.reducePow, Int.reduceMul, Int.reduceAdd, Int.reduceSub, Int.reduceLT, Int.reduceLE, Nat.reduceMul, Int.cast_ofNat_Int, Nat.reduceSub, Nat.reduceLT, Nat.reduceLeDiff, ne_eq, reduceCtorEq, not_false_eq_true, not_true_eq_false, Int.reduceEq, Int.reduceNeg, Bool.false_eq_true, Bool.not_true, Bool.not_false, decide_true, decide_false, true_and, and_true, false_and, and_false, or_true, true_or, or_false, false_or, id_eq, Bool.true_eq_false, decide_eq_true_eq, Bool.not_eq_true', decide_eq_false_iff_not, Bool.not_not, blsD, List.all_cons, List.all_nil, List.any_cons, List.any_nil, Bool.and_self, Bool.and_true, Bool.or_false, dFor, dLc, itL, wipeD, backD, isi_NoneType_bool, isi_NoneType_int, isi_NoneType_str, isi_NoneType_tuple, isi_NoneType_list, isi_NoneType_dict, isi_bool_bool, isi_bool_int, isi_bool_str, isi_bool_tuple, isi_bool_list, isi_bool_dict, isi_int_bool, isi_int_int, isi_int_str, isi_int_tuple, isi_int_list, isi_int_dict, isi_str_bool, isi_str_int, isi_str_str, isi_str_tuple, isi_str_list, isi_str_dict, isi_tuple_bool, isi_tuple_int, isi_tuple_str, isi_tuple_tuple, isi_tuple_list, isi_tuple_dict, isi_list_bool, isi_list_int, isi_list_str, isi_list_tuple, isi_list_list, isi_list_dict, isi_dict_bool, isi_dict_int, isi_dict_str, isi_dict_tuple, isi_dict_list, isi_dict_dict]
theorem ok_comings (T : Tx K mg) : Okf P w K mg base 1 "comings" ["door"] g_comings := (raw_comings T ).by eq_comings
abbrev slaw_door : Stmt := (top 7)
abbrev Nlaw_door : List Str := ["_law_cell", "_law_rank", "_law_more", "_law_turns", "_law_k", "_law_seed", "_law_many", "_law_low", "_law_high", "_law_first"]
theorem sclaw_door : FnScope Nlaw_door ["_law_cell"] (defScope slaw_door) := ⟨rfl, rfl, rfl, by decide +kernel, rfl, by decide +kernel, by decide +kernel⟩
noncomputable def flaw_door1b : M Fl :=
    (dDrop (okD (dApp (dVar 3) (M.bind (dCons (dD (dC (.int 900))) (dCons (dOp gAdd (okD (dOp gIx (dVar 3) (okD (dNeg (dC (.int 1)))))) (okD (dOp gIx (okN (dLst (dCons (dD (dC (.int 0))) (dCons (dD (dC (.int 1))) (dCons (dD (dC (.int 70))) (dCons (dD (dC (.int 3))) dNil)))))) (okD (dOp gMod (okD (dOp gDiv (okD (dCall g_law_mixed (dCons (dD (dVar 2)) (dCons (dD (dVar 4)) dNil)))) (dC (.int 5)))) (dC (.int 4))))))) dNil)) (g2I fMin)))))
noncomputable def den_law_door : M Fl :=
    (dSeq (dSet 1 (dOp gIx (okN (dLst (dCons (dD (dC (.int 0))) (dCons (dOp gMod (okD (dOp gDiv (dVar 0) (dC (.int 3)))) (dC (.int 10))) dNil)))) (okD (dOp gMod (dVar 0) (dC (.int 2))))))
    (dSeq (dSet 2 (dOp gDiv (dVar 0) (dC (.int 4))))
    (dSeq (dIfS (dCmpT (gI iLt) (okD (dOp gMod (dVar 0) (dC (.int 4)))) (dC (.int 2))) (dSeq (dSetN 3 (dLst (dCons (dOp gMod (dVar 2) (dC (.int 200))) dNil)))
    (dSeq (dFor (M.bind (dCons (dOp gMod (okD (dOp gDiv (dVar 2) (dC (.int 200)))) (dC (.int 12))) dNil) rng1X) (dName 4) flaw_door1b)
    (dRet (dTup (dCons (dD (dC (.str "door"))) (dCons (dD (dC (.str "till"))) (dCons (dD (dVar 1)) (dCons (dTup (dCons (dD (dC (.str "at"))) (dCons (M.bind (dVar 3) gTupOf) dNil))) (dCons (dD (dC (.str "out"))) dNil))))))))) dNx)
    (dSeq (dSet 5 (dOp gIx (okN (dLst (dCons (dD (dC (.int 0))) (dCons (dD (dC (.int 100))) (dCons (dOp gMod (dVar 2) (dC (.int 101))) (dCons (dD (dC (.int 13))) dNil)))))) (okD (dOp gMod (okD (dOp gDiv (dVar 2) (dC (.int 101)))) (dC (.int 4))))))
    (dSeq (dSet 6 (dOp gIx (okN (dLst (dCons (dD (dC (.int 1))) (dCons (dD (dC (.int 20))) (dCons (dOp gAdd (dC (.int 1)) (okD (dOp gMod (okD (dOp gDiv (dVar 2) (dC (.int 404)))) (dC (.int 20))))) dNil))))) (okD (dOp gMod (okD (dOp gDiv (dVar 2) (dC (.int 7)))) (dC (.int 3))))))
    (dSeq (dSet 7 (dOp gIx (okN (dLst (dCons (dD (dC (.int 0))) (dCons (dD (dC (.int 50))) (dCons (dOp gMod (okD (dOp gDiv (dVar 2) (dC (.int 11)))) (dC (.int 51))) dNil))))) (okD (dOp gMod (okD (dOp gDiv (dVar 2) (dC (.int 13)))) (dC (.int 3))))))
    (dSeq (dSet 8 (dOp gIx (okN (dLst (dCons (dD (dVar 7)) (dCons (dD (dC (.int 50))) (dCons (dOp gAdd (dVar 7) (okD (dOp gMod (okD (dOp gDiv (dVar 2) (dC (.int 17)))) (okD (dOp gSubI (dC (.int 51)) (dVar 7)))))) dNil))))) (okD (dOp gMod (okD (dOp gDiv (dVar 2) (dC (.int 19)))) (dC (.int 3))))))
    (dSeq (dSet 9 (dOp gIx (okN (dLst (dCons (dD (dC (.int 0))) (dCons (dD (dC (.int 900))) (dCons (dOp gMod (okD (dOp gDiv (dVar 2) (dC (.int 23)))) (dC (.int 901))) dNil))))) (okD (dOp gMod (okD (dOp gDiv (dVar 2) (dC (.int 29)))) (dC (.int 3))))))
    (dRet (dTup (dCons (dD (dC (.str "door"))) (dCons (dD (dC (.str "gate"))) (dCons (dD (dVar 1)) (dCons (dTup (dCons (dD (dC (.str "draws"))) (dCons (dD (dVar 5)) (dCons (dD (dVar 6)) (dCons (dD (dVar 7)) (dCons (dD (dVar 8)) (dCons (dD (dVar 9)) dNil))))))) (dCons (dD (dC (.str "out"))) dNil)))))))))))))))
theorem raw_law_door (T : Tx K mg) (h_F__law_mixed : Okf P w K mg base 1 "_law_mixed" ["_law_cell", "_law_k"] g_law_mixed) : Okf P w K mg base 2 "_law_door" ["_law_cell"] (runD 10 1 den_law_door) := by
  have sc := sclaw_door
  exact ok_has (N := Nlaw_door) T.d_law_door sc rfl (by decide) fun f cdv A outer s H E hr => ⟨_, ((bd_cons (sd_set (i := 1) sc.nd rfl (by first | exact Or.inl rfl | exact Or.inr rfl) (dd_ix (EN.e (en_lst (ad_cons (ED.d ed_int) (ad_cons (dd_mod (DD.e (dd_div (ed_var 0) ed_int)) ed_int) ad_nil)))) (DD.e (dd_mod (ed_var 0) ed_int)) (fun _ _ => rfl)))
    (bd_cons (sd_set (i := 2) sc.nd rfl (by first | exact Or.inl rfl | exact Or.inr rfl) (dd_div (ed_var 0) ed_int))
    (bd_cons (sd_if (td_cmp cLt (DD.e (dd_mod (ed_var 0) ed_int)) ed_int (nomark _)) (bd_cons (sd_setN (i := 3) sc.nd rfl (by first | exact Or.inl rfl | exact Or.inr rfl) (en_lst (ad_cons (dd_mod (ed_var 2) ed_int) ad_nil)))
    (bd_cons (sd_for (passes_of rfl) rfl (id_range1 (by rfl) T.n_range (ad_cons (dd_mod (DD.e (dd_div (ed_var 2) ed_int)) ed_int) ad_nil)) (gd_name (i := 4) sc.nd rfl (by first | exact Or.inl rfl | exact Or.inr rfl)) (bd_one (sd_expr (DD.e (dd_append (ed_var 3) (dd_b2 (call_min2' rfl) (by rfl) T.n_min (by decide +kernel) (ad_cons (ED.d ed_int) (ad_cons (dd_add (DD.e (dd_ix (ed_var 3) (DD.e (dd_neg ed_int)) (fun _ _ => rfl))) (DD.e (dd_ix (EN.e (en_lst (ad_cons (ED.d ed_int) (ad_cons (ED.d ed_int) (ad_cons (ED.d ed_int) (ad_cons (ED.d ed_int) ad_nil)))))) (DD.e (dd_mod (DD.e (dd_div (DD.e (dd_fn h_F__law_mixed (hr.mono (by decide)) (by rfl) (pol_of (takes_of rfl rfl rfl rfl)) (ad_cons (ED.d (ed_var 2)) (ad_cons (ED.d (ed_var 4)) ad_nil)))) ed_int)) ed_int)) (fun _ _ => rfl)))) ad_nil))))))))
    (bd_one (sd_ret (dd_tup (ad_cons (ED.d ed_str) (ad_cons (ED.d ed_str) (ad_cons (ED.d (ed_var 1)) (ad_cons (dd_tup (ad_cons (ED.d ed_str) (ad_cons (dd_t1 bTup (by rfl) T.n_tuple (by decide +kernel) (ed_var 3)) ad_nil))) (ad_cons (ED.d ed_str) ad_nil)))))))))) bd_nil)
    (bd_cons (sd_set (i := 5) sc.nd rfl (by first | exact Or.inl rfl | exact Or.inr rfl) (dd_ix (EN.e (en_lst (ad_cons (ED.d ed_int) (ad_cons (ED.d ed_int) (ad_cons (dd_mod (ed_var 2) ed_int) (ad_cons (ED.d ed_int) ad_nil)))))) (DD.e (dd_mod (DD.e (dd_div (ed_var 2) ed_int)) ed_int)) (fun _ _ => rfl)))
    (bd_cons (sd_set (i := 6) sc.nd rfl (by first | exact Or.inl rfl | exact Or.inr rfl) (dd_ix (EN.e (en_lst (ad_cons (ED.d ed_int) (ad_cons (ED.d ed_int) (ad_cons (dd_add ed_int (DD.e (dd_mod (DD.e (dd_div (ed_var 2) ed_int)) ed_int))) ad_nil))))) (DD.e (dd_mod (DD.e (dd_div (ed_var 2) ed_int)) ed_int)) (fun _ _ => rfl)))
    (bd_cons (sd_set (i := 7) sc.nd rfl (by first | exact Or.inl rfl | exact Or.inr rfl) (dd_ix (EN.e (en_lst (ad_cons (ED.d ed_int) (ad_cons (ED.d ed_int) (ad_cons (dd_mod (DD.e (dd_div (ed_var 2) ed_int)) ed_int) ad_nil))))) (DD.e (dd_mod (DD.e (dd_div (ed_var 2) ed_int)) ed_int)) (fun _ _ => rfl)))
    (bd_cons (sd_set (i := 8) sc.nd rfl (by first | exact Or.inl rfl | exact Or.inr rfl) (dd_ix (EN.e (en_lst (ad_cons (ED.d (ed_var 7)) (ad_cons (ED.d ed_int) (ad_cons (dd_add (ed_var 7) (DD.e (dd_mod (DD.e (dd_div (ed_var 2) ed_int)) (DD.e (dd_sub ed_int (ed_var 7)))))) ad_nil))))) (DD.e (dd_mod (DD.e (dd_div (ed_var 2) ed_int)) ed_int)) (fun _ _ => rfl)))
    (bd_cons (sd_set (i := 9) sc.nd rfl (by first | exact Or.inl rfl | exact Or.inr rfl) (dd_ix (EN.e (en_lst (ad_cons (ED.d ed_int) (ad_cons (ED.d ed_int) (ad_cons (dd_mod (DD.e (dd_div (ed_var 2) ed_int)) ed_int) ad_nil))))) (DD.e (dd_mod (DD.e (dd_div (ed_var 2) ed_int)) ed_int)) (fun _ _ => rfl)))
    (bd_one (sd_ret (dd_tup (ad_cons (ED.d ed_str) (ad_cons (ED.d ed_str) (ad_cons (ED.d (ed_var 1)) (ad_cons (dd_tup (ad_cons (ED.d ed_str) (ad_cons (ED.d (ed_var 5)) (ad_cons (ED.d (ed_var 6)) (ad_cons (ED.d (ed_var 7)) (ad_cons (ED.d (ed_var 8)) (ad_cons (ED.d (ed_var 9)) ad_nil))))))) (ad_cons (ED.d ed_str) ad_nil)))))))))))))))) : BD _ _ _ _ den_law_door)⟩
noncomputable def g_law_door : G := runD 10 1 den_law_door
theorem eq_law_door : ∀ ds S, g_law_door ds S ≠ .no → runD 10 1 den_law_door ds S = g_law_door ds S := fun _ _ _ => rfl
theorem ok_law_door (T : Tx K mg) (h_F__law_mixed : Okf P w K mg base 1 "_law_mixed" ["_law_cell", "_law_k"] g_law_mixed) : Okf P w K mg base 2 "_law_door" ["_law_cell"] g_law_door := (raw_law_door T h_F__law_mixed).by eq_law_door
abbrev slaw_due : Stmt := (top 8)
abbrev Nlaw_due : List Str := ["_law_door_here", "_law_way", "_law_found", "_law_number"]
theorem sclaw_due : FnScope Nlaw_due ["_law_door_here"] (defScope slaw_due) := ⟨rfl, rfl, rfl, by decide +kernel, rfl, by decide +kernel, by decide +kernel⟩
noncomputable def flaw_due1b : M Fl :=
    (dDrop (okD (dApp (dVar 2) (dOp gAdd (okD (dOp gAdd (okD (dOp gIx (dVar 2) (okD (dNeg (dC (.int 1)))))) (okD (dOp gIx (dVar 1) (dC (.int 3)))))) (okD (dOp gMod (dVar 3) (okD (dOp gAdd (okD (dOp gSubI (okD (dOp gIx (dVar 1) (dC (.int 4)))) (okD (dOp gIx (dVar 1) (dC (.int 3)))))) (dC (.int 1))))))))))
noncomputable def den_law_due : M Fl :=
    (dSeq (dSet 1 (dOp gIx (dVar 0) (dC (.int 3))))
    (dSeq (dIfS (dCmpT (gEq false) (okD (dOp gIx (dVar 1) (dC (.int 0)))) (dC (.str "at"))) (dRet (dD (okN (dListOf (okD (dOp gIx (dVar 1) (dC (.int 1)))))))) dNx)
    (dSeq (dSetN 2 (dLst (dCons (dOp gIx (dVar 1) (dC (.int 5))) dNil)))
    (dSeq (dForA (dCall g_law_numbers_behind (dCons (dOp gIx (dVar 1) (dC (.int 1))) (dCons (dOp gSubI (okD (dOp gIx (dVar 1) (dC (.int 2)))) (dC (.int 1))) dNil))) (dName 3) flaw_due1b)
    (dRet (dD (dVar 2)))))))
theorem raw_law_due (T : Tx K mg) (h_F__law_numbers_behind : Okf P w K mg base 1 "_law_numbers_behind" ["_law_seed", "_law_many"] g_law_numbers_behind) : Okf P w K mg base 2 "_law_due" ["_law_door_here"] (runD 4 1 den_law_due) := by
  have sc := sclaw_due
  exact ok_has (N := Nlaw_due) T.d_law_due sc rfl (by decide) fun f cdv A outer s H E hr => ⟨_, ((bd_cons (sd_set (i := 1) sc.nd rfl (by first | exact Or.inl rfl | exact Or.inr rfl) (dd_ix (ed_var 0) ed_int (fun _ _ => rfl)))
    (bd_cons (sd_if (td_cmp (cEq hr.units) (DD.e (dd_ix (ed_var 1) ed_int (fun _ _ => rfl))) ed_str (nomark _)) (bd_one (sd_ret (ED.d (EN.e (en_listOf (by rfl) T.n_list (by decide +kernel) (DD.e (dd_ix (ed_var 1) ed_int (fun _ _ => rfl)))))))) bd_nil)
    (bd_cons (sd_setN (i := 2) sc.nd rfl (by first | exact Or.inl rfl | exact Or.inr rfl) (en_lst (ad_cons (dd_ix (ed_var 1) ed_int (fun _ _ => rfl)) ad_nil)))
    (bd_cons (sd_forA (passes_of rfl) rfl (dd_fn h_F__law_numbers_behind (hr.mono (by decide)) (by rfl) (pol_of (takes_of rfl rfl rfl rfl)) (ad_cons (dd_ix (ed_var 1) ed_int (fun _ _ => rfl)) (ad_cons (dd_sub (DD.e (dd_ix (ed_var 1) ed_int (fun _ _ => rfl))) ed_int) ad_nil))) (gd_name (i := 3) sc.nd rfl (by first | exact Or.inl rfl | exact Or.inr rfl)) (bd_one (sd_expr (DD.e (dd_append (ed_var 2) (dd_add (DD.e (dd_add (DD.e (dd_ix (ed_var 2) (DD.e (dd_neg ed_int)) (fun _ _ => rfl))) (DD.e (dd_ix (ed_var 1) ed_int (fun _ _ => rfl))))) (DD.e (dd_mod (ed_var 3) (DD.e (dd_add (DD.e (dd_sub (DD.e (dd_ix (ed_var 1) ed_int (fun _ _ => rfl))) (DD.e (dd_ix (ed_var 1) ed_int (fun _ _ => rfl))))) ed_int))))))))))
    (bd_one (sd_ret (ED.d (ed_var 2)))))))) : BD _ _ _ _ den_law_due)⟩
noncomputable def g_law_due : G := runD 4 1 den_law_due
theorem eq_law_due : ∀ ds S, g_law_due ds S ≠ .no → runD 4 1 den_law_due ds S = g_law_due ds S := fun _ _ _ => rfl

theorem due_at (r : Int) (ts : List Int) (S : List Cell) : g_law_due [doorA r ts] S = .ok (.lst (ts.map I)) S := by
  have a1 : atI ([.v (.str "door"), .v (.str "till"), .v (.int r), .tup [.v (.str "at"), .tup (ts.map I)], .v (.str "out")] : List D) 3 = some (.tup [.v (.str "at"), .tup (ts.map I)]) := rfl
  have a2 : atI ([.v (.str "at"), .tup (ts.map I)] : List D) 0 = some (.v (.str "at")) := rfl
  have a3 : atI ([.v (.str "at"), .tup (ts.map I)] : List D) 1 = some (.tup (ts.map I)) := rfl
  simp only [g_law_due, den_law_due, doorA, runD, dD, dNil, dCons, dAnd, dOr, dNotT, dAndV, dOrV, dNotV, dIf, dTru, dCmpT, dSeq, dRet, dSet, dSetN, dIfS, dNx, dDrop, dOp, dNeg, dTup, dLst, dC, dK, dVar, okD, okN, frz, dCall, ofF, dAug, dPar, dApp, dChain, dListOf, dSlL, dRev,
  M.bind, M.pure, M.no, M.ne, dName, dUnit, dConsG, dTupG, gOr, gI, gS, gAdd, gSubI, gMul, gDiv, gMod, gPow, gIx, gLen, gAbs, gInt1, gSum, gAll, gAny, gMaxL, gMinL, gTupOf, g2I, gDm, gPart, gTru, gBool, gBoolO, gEq_pair, gEq_ints, gEq_sl1, gEq_sl2, opL, gEq_int, gEq_str, gEq_bl, gEq_non, gNone, gIn, gSign, gCat, gRep, gIsi,
  iLt, iLe, iGt, iGe, My.isNon, truD, tagD, seqD, lstD, rdlD, mutD, putL, tupD, vsD, rng1X, rng2X, enuX, zipX, seqX,
  Option.bind, Option.map, Option.bind_some, Option.map_some,
  List.map_cons, List.map_nil, List.length_cons, List.length_nil, List.nil_append, List.cons_append, List.replicate, List.getElem?_cons_zero, List.getElem?_cons_succ, List.set_cons_zero, List.set_cons_succ, List.append_nil,
  if_true, if_false, ite_true, ite_false, Nat.reduceAdd, Int.reduceToNat, Int.reducePow, Nat.reducePow, Int.reduceMul, Int.reduceAdd, Int.reduceSub, Int.reduceLT, Int.reduceLE, Nat.reduceMul, Int.cast_ofNat_Int, Nat.reduceSub, Nat.reduceLT, Nat.reduceLeDiff, ne_eq, reduceCtorEq, not_false_eq_true, not_true_eq_false, Int.reduceEq, Int.reduceNeg, Bool.false_eq_true, Bool.not_true, Bool.not_false, decide_true, decide_false, true_and, and_true, false_and, and_false, or_true, true_or, or_false, false_or, id_eq, Bool.true_eq_false, decide_eq_true_eq, Bool.not_eq_true', decide_eq_false_iff_not, Bool.not_not, blsD, List.all_cons, List.all_nil, List.any_cons, List.any_nil, Bool.and_self, Bool.and_true, Bool.or_false, dFor, dLc, itL, wipeD, backD, isi_NoneType_bool, isi_NoneType_int, isi_NoneType_str, isi_NoneType_tuple, isi_NoneType_list, isi_NoneType_dict, isi_bool_bool, isi_bool_int, isi_bool_str, isi_bool_tuple, isi_bool_list, isi_bool_dict, isi_int_bool, isi_int_int, isi_int_str, isi_int_tuple, isi_int_list, isi_int_dict, isi_str_bool, isi_str_int, isi_str_str, isi_str_tuple, isi_str_list, isi_str_dict, isi_tuple_bool, isi_tuple_int, isi_tuple_str, isi_tuple_tuple, isi_tuple_list, isi_tuple_dict, isi_list_bool, isi_list_int, isi_list_str, isi_list_tuple, isi_list_list, isi_list_dict, isi_dict_bool, isi_dict_int, isi_dict_str, isi_dict_tuple, isi_dict_list, isi_dict_dict, dPut, dSt, dForA, dForX, a1, a2, a3]
theorem due_dr (r s m l h f : Int) (S : List Cell) (hs : 0 ≤ s) (hs2 : s ≤ 100) (hm : 1 ≤ m) (hm2 : m ≤ 20) (hl : 0 ≤ l) (hh : l ≤ h) (h5 : h ≤ 50) : g_law_due [doorD r s m l h f] S = .ok (.lst ((f :: turnsL l h (nums (m.toNat - 1) s) f).map I)) S := by
  have a1 : atI ([.v (.str "door"), .v (.str "gate"), .v (.int r), .tup [.v (.str "draws"), .v (.int s), .v (.int m), .v (.int l), .v (.int h), .v (.int f)], .v (.str "out")] : List D) 3 = some (.tup [.v (.str "draws"), .v (.int s), .v (.int m), .v (.int l), .v (.int h), .v (.int f)]) := rfl
  have b0 : atI ([.v (.str "draws"), .v (.int s), .v (.int m), .v (.int l), .v (.int h), .v (.int f)] : List D) 0 = some (.v (.str "draws")) := rfl
  have b1 : atI ([.v (.str "draws"), .v (.int s), .v (.int m), .v (.int l), .v (.int h), .v (.int f)] : List D) 1 = some (.v (.int s)) := rfl
  have b2 : atI ([.v (.str "draws"), .v (.int s), .v (.int m), .v (.int l), .v (.int h), .v (.int f)] : List D) 2 = some (.v (.int m)) := rfl
  have b3 : atI ([.v (.str "draws"), .v (.int s), .v (.int m), .v (.int l), .v (.int h), .v (.int f)] : List D) 3 = some (.v (.int l)) := rfl
  have b4 : atI ([.v (.str "draws"), .v (.int s), .v (.int m), .v (.int l), .v (.int h), .v (.int f)] : List D) 4 = some (.v (.int h)) := rfl
  have b5 : atI ([.v (.str "draws"), .v (.int s), .v (.int m), .v (.int l), .v (.int h), .v (.int f)] : List D) 5 = some (.v (.int f)) := rfl
  have n := numsb s (m - 1) S hs hs2 (by omega) (by omega)
  rw [show (m - 1).toNat = m.toNat - 1 by omega] at n
  have d2 : (h - l + 1 = 0) = False := by
    simp
    omega
  have L : ∀ (ns : List Int) (xs : List Int) (t : Int) (x0 x3 : Slot), xs.length + ns.length < 1000 → ∃ y3, itF (dName 3) flaw_due1b (ns.map I) ⟨[x0, .d (.tup [.v (.str "draws"), .v (.int s), .v (.int m), .v (.int l), .v (.int h), .v (.int f)]), .own (.lst ((xs ++ [t]).map I)), x3], S⟩ = .ok .nx ⟨[x0, .d (.tup [.v (.str "draws"), .v (.int s), .v (.int m), .v (.int l), .v (.int h), .v (.int f)]), .own (.lst ((xs ++ [t] ++ turnsL l h ns t).map I)), y3], S⟩ := by
    intro ns
    induction ns with
    | nil =>
      intro xs t x0 x3 _
      exact ⟨x3, by rw [show xs ++ [t] ++ turnsL l h [] t = xs ++ [t] from List.append_nil _]; rfl⟩
    | cons k ns ih =>
      intro xs t x0 x3 hz
      obtain ⟨y3, e⟩ := ih (xs ++ [t]) (t + l + k.fmod (h - l + 1)) x0 (.d (I k)) (by simp at hz ⊢; omega)
      refine ⟨y3, ?_⟩
      have q : stp l h k t = t + l + k.fmod (h - l + 1) := by
        unfold stp
        omega
      have z : (xs ++ [t]).length < 1000000 := by simp at hz ⊢; omega
      have la := at_last xs t
      rw [show turnsL l h (k :: ns) t = stp l h k t :: turnsL l h ns (stp l h k t) from rfl, q]
      rw [List.append_assoc (xs ++ [t])] at e
      have hb : flaw_due1b ⟨[x0, .d (.tup [.v (.str "draws"), .v (.int s), .v (.int m), .v (.int l), .v (.int h), .v (.int f)]), .own (.lst ((xs ++ [t]).map I)), .d (I k)], S⟩ = .ok .nx ⟨[x0, .d (.tup [.v (.str "draws"), .v (.int s), .v (.int m), .v (.int l), .v (.int h), .v (.int f)]), .own (.lst ((xs ++ [t] ++ [t + l + k.fmod (h - l + 1)]).map I)), .d (I k)], S⟩ := by
        simp only [flaw_due1b, runD, dD, dNil, dCons, dAnd, dOr, dNotT, dAndV, dOrV, dNotV, dIf, dTru, dCmpT, dSeq, dRet, dSet, dSetN, dIfS, dNx, dDrop, dOp, dNeg, dTup, dLst, dC, dK, dVar, okD, okN, frz, dCall, ofF, dAug, dPar, dApp, dChain, dListOf, dSlL, dRev,
  M.bind, M.pure, M.no, M.ne, dName, dUnit, dConsG, dTupG, gOr, gI, gS, gAdd, gSubI, gMul, gDiv, gMod, gPow, gIx, gLen, gAbs, gInt1, gSum, gAll, gAny, gMaxL, gMinL, gTupOf, g2I, gDm, gPart, gTru, gBool, gBoolO, gEq_pair, gEq_ints, gEq_sl1, gEq_sl2, opL, gEq_int, gEq_str, gEq_bl, gEq_non, gNone, gIn, gSign, gCat, gRep, gIsi,
  iLt, iLe, iGt, iGe, My.isNon, truD, tagD, seqD, lstD, rdlD, mutD, putL, tupD, vsD, rng1X, rng2X, enuX, zipX, seqX,
  Option.bind, Option.map, Option.bind_some, Option.map_some,
  List.map_cons, List.map_nil, List.length_cons, List.length_nil, List.nil_append, List.cons_append, List.replicate, List.getElem?_cons_zero, List.getElem?_cons_succ, List.set_cons_zero, List.set_cons_succ, List.append_nil,
  if_true, if_false, ite_true, ite_false, Nat.reduceAdd, Int.reduceToNat, Int.reducePow, Nat.reducePow, Int.reduceMul, Int.reduceAdd, Int.reduceSub, Int.reduceLT, Int.reduceLE, Nat.reduceMul, Int.cast_ofNat_Int, Nat.reduceSub, Nat.reduceLT, Nat.reduceLeDiff, ne_eq, reduceCtorEq, not_false_eq_true, not_true_eq_false, Int.reduceEq, Int.reduceNeg, Bool.false_eq_true, Bool.not_true, Bool.not_false, decide_true, decide_false, true_and, and_true, false_and, and_false, or_true, true_or, or_false, false_or, id_eq, Bool.true_eq_false, decide_eq_true_eq, Bool.not_eq_true', decide_eq_false_iff_not, Bool.not_not, blsD, List.all_cons, List.all_nil, List.any_cons, List.any_nil, Bool.and_self, Bool.and_true, Bool.or_false, dFor, dLc, itL, wipeD, backD, isi_NoneType_bool, isi_NoneType_int, isi_NoneType_str, isi_NoneType_tuple, isi_NoneType_list, isi_NoneType_dict, isi_bool_bool, isi_bool_int, isi_bool_str, isi_bool_tuple, isi_bool_list, isi_bool_dict, isi_int_bool, isi_int_int, isi_int_str, isi_int_tuple, isi_int_list, isi_int_dict, isi_str_bool, isi_str_int, isi_str_str, isi_str_tuple, isi_str_list, isi_str_dict, isi_tuple_bool, isi_tuple_int, isi_tuple_str, isi_tuple_tuple, isi_tuple_list, isi_tuple_dict, isi_list_bool, isi_list_int, isi_list_str, isi_list_tuple, isi_list_list, isi_list_dict, isi_dict_bool, isi_dict_int, isi_dict_str, isi_dict_tuple, isi_dict_list, isi_dict_dict, I, b3, b4, d2, la, List.length_map, z, app_int]
      rw [List.map_cons, itF_next (c1 := ⟨[x0, .d (.tup [.v (.str "draws"), .v (.int s), .v (.int m), .v (.int l), .v (.int h), .v (.int f)]), .own (.lst ((xs ++ [t]).map I)), .d (I k)], S⟩) rfl hb]
      exact e
  obtain ⟨y3, e⟩ := L (nums (m.toNat - 1) s) [] f (.d (doorD r s m l h f)) .no (by rw [nums_len]; simp; omega)
  simp only [doorD, List.nil_append, List.map_cons, List.map_nil] at e
  simp only [g_law_due, den_law_due, doorD, runD, dD, dNil, dCons, dAnd, dOr, dNotT, dAndV, dOrV, dNotV, dIf, dTru, dCmpT, dSeq, dRet, dSet, dSetN, dIfS, dNx, dDrop, dOp, dNeg, dTup, dLst, dC, dK, dVar, okD, okN, frz, dCall, ofF, dAug, dPar, dApp, dChain, dListOf, dSlL, dRev,
  M.bind, M.pure, M.no, M.ne, dName, dUnit, dConsG, dTupG, gOr, gI, gS, gAdd, gSubI, gMul, gDiv, gMod, gPow, gIx, gLen, gAbs, gInt1, gSum, gAll, gAny, gMaxL, gMinL, gTupOf, g2I, gDm, gPart, gTru, gBool, gBoolO, gEq_pair, gEq_ints, gEq_sl1, gEq_sl2, opL, gEq_int, gEq_str, gEq_bl, gEq_non, gNone, gIn, gSign, gCat, gRep, gIsi,
  iLt, iLe, iGt, iGe, My.isNon, truD, tagD, seqD, lstD, rdlD, mutD, putL, tupD, vsD, rng1X, rng2X, enuX, zipX, seqX,
  Option.bind, Option.map, Option.bind_some, Option.map_some,
  List.map_cons, List.map_nil, List.length_cons, List.length_nil, List.nil_append, List.cons_append, List.replicate, List.getElem?_cons_zero, List.getElem?_cons_succ, List.set_cons_zero, List.set_cons_succ, List.append_nil,
  if_true, if_false, ite_true, ite_false, Nat.reduceAdd, Int.reduceToNat, Int.reducePow, Nat.reducePow, Int.reduceMul, Int.reduceAdd, Int.reduceSub, Int.reduceLT, Int.reduceLE, Nat.reduceMul, Int.cast_ofNat_Int, Nat.reduceSub, Nat.reduceLT, Nat.reduceLeDiff, ne_eq, reduceCtorEq, not_false_eq_true, not_true_eq_false, Int.reduceEq, Int.reduceNeg, Bool.false_eq_true, Bool.not_true, Bool.not_false, decide_true, decide_false, true_and, and_true, false_and, and_false, or_true, true_or, or_false, false_or, id_eq, Bool.true_eq_false, decide_eq_true_eq, Bool.not_eq_true', decide_eq_false_iff_not, Bool.not_not, blsD, List.all_cons, List.all_nil, List.any_cons, List.any_nil, Bool.and_self, Bool.and_true, Bool.or_false, dFor, dLc, itL, wipeD, backD, isi_NoneType_bool, isi_NoneType_int, isi_NoneType_str, isi_NoneType_tuple, isi_NoneType_list, isi_NoneType_dict, isi_bool_bool, isi_bool_int, isi_bool_str, isi_bool_tuple, isi_bool_list, isi_bool_dict, isi_int_bool, isi_int_int, isi_int_str, isi_int_tuple, isi_int_list, isi_int_dict, isi_str_bool, isi_str_int, isi_str_str, isi_str_tuple, isi_str_list, isi_str_dict, isi_tuple_bool, isi_tuple_int, isi_tuple_str, isi_tuple_tuple, isi_tuple_list, isi_tuple_dict, isi_list_bool, isi_list_int, isi_list_str, isi_list_tuple, isi_list_list, isi_list_dict, isi_dict_bool, isi_dict_int, isi_dict_str, isi_dict_tuple, isi_dict_list, isi_dict_dict, dPut, dSt, dForA, dForX, a1, b0, b1, b2, b5, w_da, n, e]

/-- a door of the law, and when one comes there -/
inductive Dr where
  | at_ (r : Int) (ts : List Int)
  | dr (r s m l h f : Int)
def Dr.d : Dr → D
  | .at_ r ts => doorA r ts
  | .dr r s m l h f => doorD r s m l h f
def Dr.due : Dr → List Int
  | .at_ _ ts => ts
  | .dr _ s m l h f => f :: turnsL l h (nums (m.toNat - 1) s) f
def Dr.ok : Dr → Prop
  | .at_ r ts => (0 ≤ r ∧ r < 10) ∧ 1 ≤ ts.length ∧ ts.length ≤ 12 ∧ ∀ t ∈ ts, 0 ≤ t ∧ t ≤ 900
  | .dr r s m l h f => (0 ≤ r ∧ r < 10) ∧ (0 ≤ s ∧ s ≤ 100) ∧ (1 ≤ m ∧ m ≤ 20) ∧ (0 ≤ l ∧ l ≤ h ∧ h ≤ 50) ∧ 0 ≤ f ∧ f ≤ 900
theorem due_len {d : Dr} (h : d.ok) : 1 ≤ d.due.length ∧ d.due.length < 100 := by
  cases d with
  | at_ r ts => exact ⟨h.2.1, by have := h.2.2.1; show ts.length < 100; omega⟩
  | dr r s m l h2 f =>
    obtain ⟨_, _, hm, _⟩ := h
    constructor
    · simp [Dr.due]
    · simp only [Dr.due, List.length_cons, turns_len, nums_len]
      omega
theorem com_ok {d : Dr} (h : d.ok) (S : List Cell) : g_comings [d.d] S = .ok (.loc S.length) (S ++ [.lst (d.due.map I)]) := by
  cases d with
  | at_ r ts => exact com_at r ts S
  | dr r s m l h2 f =>
    obtain ⟨_, hs, hm, hl, _⟩ := h
    exact com_dr r s m l h2 f S hm.1 hm.2 hl.1 hl.2.1 hl.2.2
theorem due_ok {d : Dr} (h : d.ok) (S : List Cell) : g_law_due [d.d] S = .ok (.lst (d.due.map I)) S := by
  cases d with
  | at_ r ts => exact due_at r ts S
  | dr r s m l h2 f =>
    obtain ⟨_, hs, hm, hl, _⟩ := h
    exact due_dr r s m l h2 f S hs.1 hs.2 hm.1 hm.2 hl.1 hl.2.1 hl.2.2
theorem ok_law_due (T : Tx K mg) (h_F__law_numbers_behind : Okf P w K mg base 1 "_law_numbers_behind" ["_law_seed", "_law_many"] g_law_numbers_behind) : Okf P w K mg base 2 "_law_due" ["_law_door_here"] g_law_due := (raw_law_due T h_F__law_numbers_behind).by eq_law_due
abbrev slaw_right : Stmt := (top 9)
abbrev Nlaw_right : List Str := ["_law_door_here", "_law_found", "_law_due_here", "_law_turn"]
theorem sclaw_right : FnScope Nlaw_right ["_law_door_here"] (defScope slaw_right) := ⟨rfl, rfl, rfl, by decide +kernel, rfl, by decide +kernel, by decide +kernel⟩
noncomputable def claw_right1e : M D :=
    (dD (dC (.int 1)))
noncomputable def claw_right1t : M Bool :=
    (dNotT (dTru (okD (dCall g_law_whole (dCons (dD (dVar 3)) dNil)))))
noncomputable def den_law_right : M Fl :=
    (dSeq (dSet 1 (dCall g_comings (dCons (dD (dVar 0)) dNil)))
    (dSeq (dSet 2 (dCall g_law_due (dCons (dD (dVar 0)) dNil)))
    (dSeq (dIfS (dOr (dNotT (dTru (okD (M.bind (dD (dVar 1)) (gIsiS "list"))))) (dOr (dCmpT (gEq true) (dVar 1) (dVar 2)) (dCmpT (gEq true) (okN (dLcA (dD (dVar 1)) (dName 3) claw_right1t claw_right1e [3])) (okN (dLst dNil))))) (dRet (dD (dC (.bl false)))) dNx)
    (dSeq (dDrop (okD (dApp (dVar 1) (dD (dC (.int 7))))))
    (dSeq (dPut (dOp gAdd (okD (dOp gIx (dVar 1) (dC (.int 0)))) (dC (.int 1))) (dVar 1) (dD (dC (.int 0))))
    (dRet (dD (dAndV (okD (dOp (gEq false) (okD (dCall g_comings (dCons (dD (dVar 0)) dNil))) (dVar 2))) (okD (dOp (gEq false) (dVar 1) (okD (dOp gAdd (okD (dOp gAdd (okN (dLst (dCons (dOp gAdd (okD (dOp gIx (dVar 2) (dC (.int 0)))) (dC (.int 1))) dNil))) (okN (dSlL (dVar 2) (M.bind (dC (.int 1)) gPart) (M.pure none))))) (okN (dLst (dCons (dD (dC (.int 7))) dNil)))))))))))))))
theorem raw_law_right (T : Tx K mg) (h_F__law_due : Okf P w K mg base 2 "_law_due" ["_law_door_here"] g_law_due) (h_F__law_whole : Okf P w K mg base 1 "_law_whole" ["_law_found"] g_law_whole) (h_F_comings : Okf P w K mg base 1 "comings" ["door"] g_comings) : Okf P w K mg base 3 "_law_right" ["_law_door_here"] (runD 4 1 den_law_right) := by
  have sc := sclaw_right
  exact ok_has (N := Nlaw_right) T.d_law_right sc rfl (by decide) fun f cdv A outer s H E hr => ⟨_, ((bd_cons (sd_set (i := 1) sc.nd rfl (by first | exact Or.inl rfl | exact Or.inr rfl) (dd_fn h_F_comings (hr.mono (by decide)) (by rfl) (pol_of (takes_of rfl rfl rfl rfl)) (ad_cons (ED.d (ed_var 0)) ad_nil)))
    (bd_cons (sd_set (i := 2) sc.nd rfl (by first | exact Or.inl rfl | exact Or.inr rfl) (dd_fn h_F__law_due (hr.mono (by decide)) (by rfl) (pol_of (takes_of rfl rfl rfl rfl)) (ad_cons (ED.d (ed_var 0)) ad_nil)))
    (bd_cons (sd_if (td_w (wd_or (td_not (td_val (DD.e (dd_isiS (x := "list") (cl := "list") (by rfl) T.n_isinstance (by decide +kernel) (ED.d (ed_var 1)) (by rfl) T.n_list (by decide +kernel))))) (wd_or (td_cmp (cNe hr.units) (ed_var 1) (ed_var 2) (nomark _)) (wd_or1 (td_cmp (cNe hr.units) (EN.e (en_lcA (own := [("_law_turn", 3)]) (W' := W0) rfl sc.nd (ED.d (ed_var 1)) (blkOk_by (N := Nlaw_right) (sc := defScope slaw_right) (by decide +kernel)) (fun _ _ _ _ _ => (gd_name (i := 3) sc.nd rfl (by first | exact Or.inl rfl | exact Or.inr rfl))) (fun _ _ _ _ _ => (tsd_one (td_not (td_val (DD.e (dd_fn h_F__law_whole (hr.mono (by decide)) (by rfl) pol0 (ad_cons (ED.d (ed_var 3)) ad_nil))))))) (fun _ _ _ _ _ => (ED.d ed_int)))) (EN.e (en_lst ad_nil)) (nomark _)))))) (bd_one (sd_ret (ED.d ed_bl))) bd_nil)
    (bd_cons (sd_expr (DD.e (dd_append (ed_var 1) (ED.d ed_int))))
    (bd_cons (sd_put (dd_add (DD.e (dd_ix (ed_var 1) ed_int (fun _ _ => rfl))) ed_int) (ed_var 1) (ED.d ed_int))
    (bd_one (sd_ret (ED.d (ed_and (DD.e (dd_cmp (cEq hr.units) (DD.e (dd_fn h_F_comings (hr.mono (by decide)) (by rfl) (pol_of (takes_of rfl rfl rfl rfl)) (ad_cons (ED.d (ed_var 0)) ad_nil))) (ed_var 2) (nomark _))) (ed_one (DD.e (dd_cmp (cEq hr.units) (ed_var 1) (DD.e (dd_add (DD.e (dd_add (EN.e (en_lst (ad_cons (dd_add (DD.e (dd_ix (ed_var 2) ed_int (fun _ _ => rfl))) ed_int) ad_nil))) (EN.e (en_slice (ed_var 2) (od_some ed_int) od_none)))) (EN.e (en_lst (ad_cons (ED.d ed_int) ad_nil))))) (nomark _))))))))))))) : BD _ _ _ _ den_law_right)⟩
noncomputable def g_law_right : G := runD 4 1 den_law_right
theorem eq_law_right : ∀ ds S, g_law_right ds S ≠ .no → runD 4 1 den_law_right ds S = g_law_right ds S := fun _ _ _ => rfl

theorem right_ok {d : Dr} (h : d.ok) (S : List Cell) : ∃ S', g_law_right [d.d] S = .ok (.v (.bl true)) S' := by
  obtain ⟨k, ks, e⟩ : ∃ k ks, d.due = k :: ks := by
    cases q : d.due with
    | nil => have := (due_len h).1; rw [q] at this; simp at this
    | cons k ks => exact ⟨k, ks, rfl⟩
  have hz := (due_len h).2
  have i0 : atI ((d.due ++ [7]).map I) 0 = some (.v (.int k)) := by
    rw [e]
    exact at_zero _ _
  have i1 : atI (d.due.map I) 0 = some (.v (.int k)) := by
    rw [e]
    exact at_zero _ _
  have cu : cutL (d.due.map I) (some 1) none = ks.map I := by
    rw [e]
    unfold cutL HT.sIx
    simp
    exact List.take_of_length_le (by simp)
  have ix : ixN ((d.due ++ [7]).map I).length 0 = some 0 := by
    unfold ixN
    simp
  obtain ⟨ys, hy⟩ : ∃ ys, ys = (k + 1) :: (ks ++ [7]) := ⟨_, rfl⟩
  have st : ((d.due ++ [7]).map I).set 0 (D.v (V.int (k + 1))) = ys.map I := by
    rw [e, hy]
    rfl
  have z1 : (d.due.map I).length < 1000000 := by simp; omega
  have z2 : (d.due.map I).length ≤ 1000000 := by simp; omega
  have z3 : (ks.map I).length ≤ 1000000 := by
    rw [e] at hz
    simp at hz ⊢
    omega
  have z4 : 1 + (ks.map I).length ≤ 1000000 := by
    rw [e] at hz
    simp at hz ⊢
    omega
  have z5 : (ks.map I).length + 1 + 1 ≤ 1000000 := by
    rw [e] at hz
    simp at hz ⊢
    omega
  have c1 := com_ok h S
  have d1 := due_ok h (S ++ [.lst (d.due.map I)])
  have c2 := com_ok h (S ++ [.lst (ys.map I)])
  generalize d.due = xs at *
  have g1 : (S ++ [Cell.lst (xs.map I)])[S.length]? = some (.lst (xs.map I)) := tl_get S _
  have q1 := fun neg (r : List Slot) ms => gEq_li (neg := neg) (n := S.length) (ns := xs) (ms := ms) (r := r) g1
  have LC : ∀ (r0 : List Slot) (x0 x1 x2 : Slot), itLG S.length (xs.map I) (dName 3) claw_right1t claw_right1e [3] r0 (xs.map I) [] ⟨[x0, x1, x2, .no], S ++ [Cell.lst (xs.map I)]⟩ = .ok [] ⟨[x0, x1, x2, .no], S ++ [Cell.lst (xs.map I)]⟩ := fun r0 x0 x1 x2 => by
    rw [itLG_map (w := [x0, x1, x2, .no]) (S := S ++ [Cell.lst (xs.map I)]) (p := fun _ => false) (f := fun x => x) g1 (xs.map I) [] _ rfl rfl (by simpa using z2) (fun d hd => ?_)]
    · simp
    · obtain ⟨i, _, rfl⟩ := List.mem_map.mp hd
      refine ⟨⟨[x0, x1, x2, .d (I i)], S ++ [Cell.lst (xs.map I)]⟩, rfl, ⟨[x0, x1, x2, .d (I i)], S ++ [Cell.lst (xs.map I)]⟩, ?_, rfl, rfl, fun z => by cases z⟩
      simp only [claw_right1t, runD, dD, dNil, dCons, dAnd, dOr, dNotT, dAndV, dOrV, dNotV, dIf, dTru, dCmpT, dSeq, dRet, dSet, dSetN, dIfS, dNx, dDrop, dOp, dNeg, dTup, dLst, dC, dK, dVar, okD, okN, frz, dCall, ofF, dAug, dPar, dApp, dChain, dListOf, dSlL, dRev,
  M.bind, M.pure, M.no, M.ne, dName, dUnit, dConsG, dTupG, gOr, gI, gS, gAdd, gSubI, gMul, gDiv, gMod, gPow, gIx, gLen, gAbs, gInt1, gSum, gAll, gAny, gMaxL, gMinL, gTupOf, g2I, gDm, gPart, gTru, gBool, gBoolO, gEq_pair, gEq_ints, gEq_sl1, gEq_sl2, opL, gEq_int, gEq_str, gEq_bl, gEq_non, gNone, gIn, gSign, gCat, gRep, gIsi,
  iLt, iLe, iGt, iGe, My.isNon, truD, tagD, seqD, lstD, rdlD, mutD, putL, tupD, vsD, rng1X, rng2X, enuX, zipX, seqX,
  Option.bind, Option.map, Option.bind_some, Option.map_some,
  List.map_cons, List.map_nil, List.length_cons, List.length_nil, List.nil_append, List.cons_append, List.replicate, List.getElem?_cons_zero, List.getElem?_cons_succ, List.set_cons_zero, List.set_cons_succ, List.append_nil,
  if_true, if_false, ite_true, ite_false, Nat.reduceAdd, Int.reduceToNat, Int.reducePow, Nat.reducePow, Int.reduceMul, Int.reduceAdd, Int.reduceSub, Int.reduceLT, Int.reduceLE, Nat.reduceMul, Int.cast_ofNat_Int, Nat.reduceSub, Nat.reduceLT, Nat.reduceLeDiff, ne_eq, reduceCtorEq, not_false_eq_true, not_true_eq_false, Int.reduceEq, Int.reduceNeg, Bool.false_eq_true, Bool.not_true, Bool.not_false, decide_true, decide_false, true_and, and_true, false_and, and_false, or_true, true_or, or_false, false_or, id_eq, Bool.true_eq_false, decide_eq_true_eq, Bool.not_eq_true', decide_eq_false_iff_not, Bool.not_not, blsD, List.all_cons, List.all_nil, List.any_cons, List.any_nil, Bool.and_self, Bool.and_true, Bool.or_false, dFor, dLc, itL, wipeD, backD, isi_NoneType_bool, isi_NoneType_int, isi_NoneType_str, isi_NoneType_tuple, isi_NoneType_list, isi_NoneType_dict, isi_bool_bool, isi_bool_int, isi_bool_str, isi_bool_tuple, isi_bool_list, isi_bool_dict, isi_int_bool, isi_int_int, isi_int_str, isi_int_tuple, isi_int_list, isi_int_dict, isi_str_bool, isi_str_int, isi_str_str, isi_str_tuple, isi_str_list, isi_str_dict, isi_tuple_bool, isi_tuple_int, isi_tuple_str, isi_tuple_tuple, isi_tuple_list, isi_tuple_dict, isi_list_bool, isi_list_int, isi_list_str, isi_list_tuple, isi_list_list, isi_list_dict, isi_dict_bool, isi_dict_int, isi_dict_str, isi_dict_tuple, isi_dict_list, isi_dict_dict, I, whole]
  have q2 : ∀ (r : List Slot) (S : List Cell), gEq true (.d (.lst [])) (.d (.lst [])) ⟨r, S⟩ = .ok (.v (.bl false)) ⟨r, S⟩ := fun r S => gEq_ints (neg := true) (ns := []) (ms := [])
  have g3 : (S ++ [Cell.lst (ys.map I)] ++ [Cell.lst (xs.map I)])[(S ++ [Cell.lst (ys.map I)]).length]? = some (.lst (xs.map I)) := tl_get _ _
  have g4 : (S ++ [Cell.lst (ys.map I)] ++ [Cell.lst (xs.map I)])[S.length]? = some (.lst (ys.map I)) := by simp
  have q3 := fun neg (r : List Slot) ms => gEq_li (neg := neg) (ms := ms) (r := r) g3
  have q4 : ∀ (r : List Slot), gEq false (.d (.loc S.length)) (.d (.lst (.v (.int (k + 1)) :: (ks ++ [7]).map I))) ⟨r, S ++ [Cell.lst (ys.map I)] ++ [Cell.lst (xs.map I)]⟩ = .ok (.v (.bl true)) ⟨r, S ++ [Cell.lst (ys.map I)] ++ [Cell.lst (xs.map I)]⟩ := fun r => by
    have := gEq_li (neg := false) (ms := (k + 1) :: (ks ++ [7])) (r := r) g4
    rw [hy] at this ⊢
    simpa using this
  refine ⟨S ++ [Cell.lst (ys.map I)] ++ [Cell.lst (xs.map I)], ?_⟩
  simp only [g_law_right, den_law_right, dLcA, dLcX, gIsiS, tagS, runD, dD, dNil, dCons, dAnd, dOr, dNotT, dAndV, dOrV, dNotV, dIf, dTru, dCmpT, dSeq, dRet, dSet, dSetN, dIfS, dNx, dDrop, dOp, dNeg, dTup, dLst, dC, dK, dVar, okD, okN, frz, dCall, ofF, dAug, dPar, dApp, dChain, dListOf, dSlL, dRev,
  M.bind, M.pure, M.no, M.ne, dName, dUnit, dConsG, dTupG, gOr, gI, gS, gAdd, gSubI, gMul, gDiv, gMod, gPow, gIx, gLen, gAbs, gInt1, gSum, gAll, gAny, gMaxL, gMinL, gTupOf, g2I, gDm, gPart, gTru, gBool, gBoolO, gEq_pair, gEq_ints, gEq_sl1, gEq_sl2, opL, gEq_int, gEq_str, gEq_bl, gEq_non, gNone, gIn, gSign, gCat, gRep, gIsi,
  iLt, iLe, iGt, iGe, My.isNon, truD, tagD, seqD, lstD, rdlD, mutD, putL, tupD, vsD, rng1X, rng2X, enuX, zipX, seqX,
  Option.bind, Option.map, Option.bind_some, Option.map_some,
  List.map_cons, List.map_nil, List.length_cons, List.length_nil, List.nil_append, List.cons_append, List.replicate, List.getElem?_cons_zero, List.getElem?_cons_succ, List.set_cons_zero, List.set_cons_succ, List.append_nil,
  if_true, if_false, ite_true, ite_false, Nat.reduceAdd, Int.reduceToNat, Int.reducePow, Nat.reducePow, Int.reduceMul, Int.reduceAdd, Int.reduceSub, Int.reduceLT, Int.reduceLE, Nat.reduceMul, Int.cast_ofNat_Int, Nat.reduceSub, Nat.reduceLT, Nat.reduceLeDiff, ne_eq, reduceCtorEq, not_false_eq_true, not_true_eq_false, Int.reduceEq, Int.reduceNeg, Bool.false_eq_true, Bool.not_true, Bool.not_false, decide_true, decide_false, true_and, and_true, false_and, and_false, or_true, true_or, or_false, false_or, id_eq, Bool.true_eq_false, decide_eq_true_eq, Bool.not_eq_true', decide_eq_false_iff_not, Bool.not_not, blsD, List.all_cons, List.all_nil, List.any_cons, List.any_nil, Bool.and_self, Bool.and_true, Bool.or_false, dFor, dLc, itL, wipeD, backD, isi_NoneType_bool, isi_NoneType_int, isi_NoneType_str, isi_NoneType_tuple, isi_NoneType_list, isi_NoneType_dict, isi_bool_bool, isi_bool_int, isi_bool_str, isi_bool_tuple, isi_bool_list, isi_bool_dict, isi_int_bool, isi_int_int, isi_int_str, isi_int_tuple, isi_int_list, isi_int_dict, isi_str_bool, isi_str_int, isi_str_str, isi_str_tuple, isi_str_list, isi_str_dict, isi_tuple_bool, isi_tuple_int, isi_tuple_str, isi_tuple_tuple, isi_tuple_list, isi_tuple_dict, isi_list_bool, isi_list_int, isi_list_str, isi_list_tuple, isi_list_list, isi_list_dict, isi_dict_bool, isi_dict_int, isi_dict_str, isi_dict_tuple, isi_dict_list, isi_dict_dict, dPut, dSt, dForA, dForX, c1, d1, g1, q1, q2, LC, z1, z2, z3, z4, z5, app_int, tl_get, tl_set, i0, i1, ix, st, cu, c2, q3, q4]

theorem pick {xs : List Int} {c m : Int} {P : Int → Prop} (hm : (xs.length : Int) = m) (h : 0 < m) (hp : ∀ x ∈ xs, P x) : ∃ v, atI (xs.map I) (c.fmod m) = some (.v (.int v)) ∧ P v := by
  have b := fmod_bd (c := c) (m := m) h
  have e := atI_map (f := I) (xs := xs) (d := 0) b.1 (by rw [hm]; exact b.2)
  have hl : (c.fmod m).toNat < xs.length := by omega
  refine ⟨_, e, hp _ ?_⟩
  rw [List.getD_eq_getElem?_getD, List.getElem?_eq_getElem hl]
  exact List.getElem_mem hl
theorem itF_invL {dg : D → M Unit} {db : M Fl} {Inv : Nat → Stt → Prop} (ds : List D) (c : Stt) (h : Inv 0 c) (t : ∀ (j : Nat) (d : D) (c : Stt), ds[j]? = some d → Inv j c → ∃ c1, dg d c = .ok () c1 ∧ ∃ c2, db c1 = .ok .nx c2 ∧ Inv (j + 1) c2) : ∃ c', itF dg db ds c = .ok .nx c' ∧ Inv ds.length c' := by
  obtain ⟨c', e, q⟩ := itF_inv (Inv := Inv) ds 0 c h fun j d c hj hc => by
    rw [Nat.zero_add] at hc
    obtain ⟨c1, e1, c2, e2, h2⟩ := t j d c hj hc
    exact ⟨c1, e1, .nx, c2, e2, .inl rfl, by rw [Nat.zero_add]; exact h2⟩
  exact ⟨c', e, by rwa [Nat.zero_add] at q⟩
theorem rng_at {lo : Int} {n j : Nat} {d : D} (h : (rngD lo n)[j]? = some d) : d = .v (.int (lo + (j : Nat))) ∧ j < n := by
  unfold rngD at h
  rw [List.getElem?_map] at h
  cases q : (List.range n)[j]? with
  | none => rw [q] at h; cases h
  | some x =>
    rw [q] at h
    obtain ⟨h1, h2⟩ := List.getElem?_eq_some_iff.mp q
    rw [List.length_range] at h1
    rw [List.getElem_range] at h2
    cases h
    exact ⟨by rw [h2], h1⟩
theorem door_at (c mr : Int) (rk : Int) (hr : 0 ≤ rk ∧ rk < 10) (S : List Cell) (x4 x5 x6 x7 x8 x9 : Slot) : ∃ ts : List Int, (1 ≤ ts.length ∧ ts.length ≤ 12 ∧ ∀ t ∈ ts, 0 ≤ t ∧ t ≤ 900) ∧ ∃ y4, itF (dName 4) flaw_door1b (rngD 0 ((mr.fdiv 200).fmod 12).toNat) ⟨[.d (.v (.int c)), .d (.v (.int rk)), .d (.v (.int mr)), .own (.lst ([mr.fmod 200].map I)), x4, x5, x6, x7, x8, x9], S⟩ = .ok .nx ⟨[.d (.v (.int c)), .d (.v (.int rk)), .d (.v (.int mr)), .own (.lst (ts.map I)), y4, x5, x6, x7, x8, x9], S⟩ := by
  have b12 := fmod_bd (c := mr.fdiv 200) (m := 12) (by decide)
  have b200 := fmod_bd (c := mr) (m := 200) (by decide)
  obtain ⟨c', e, xs, t, y4, rfl, hl, ha⟩ := itF_invL (dg := dName 4) (db := flaw_door1b) (Inv := fun j c' => ∃ (xs : List Int) (t : Int) (y4 : Slot), c' = ⟨[.d (.v (.int c)), .d (.v (.int rk)), .d (.v (.int mr)), .own (.lst ((xs ++ [t]).map I)), y4, x5, x6, x7, x8, x9], S⟩ ∧ xs.length = j ∧ ∀ x ∈ xs ++ [t], 0 ≤ x ∧ x ≤ 900)
    (rngD 0 ((mr.fdiv 200).fmod 12).toNat) ⟨[.d (.v (.int c)), .d (.v (.int rk)), .d (.v (.int mr)), .own (.lst ([mr.fmod 200].map I)), x4, x5, x6, x7, x8, x9], S⟩ ⟨[], mr.fmod 200, x4, rfl, rfl, fun x hx => by
      obtain rfl : x = mr.fmod 200 := by simpa using hx
      omega⟩ (by
    rintro j d _ hd ⟨xs, t, y4, rfl, hl, ha⟩
    obtain ⟨rfl, hj⟩ := rng_at hd
    rw [Int.zero_add]
    have la := at_last xs t
    have ht := ha t (by simp)
    have e := gx mr (j : Nat) S (by omega)
    obtain ⟨v, e2, hv⟩ := pick (xs := [0, 1, 70, 3]) (c := (mixed mr (j : Nat)).fdiv 5) (m := 4) (P := fun v => 0 ≤ v) rfl (by decide) (by simp)
    have e3 : atI [D.v (V.int 0), .v (.int 1), .v (.int 70), .v (.int 3)] (((mixed mr (j : Nat)).fdiv 5).fmod 4) = some (.v (.int v)) := e2
    have z : (xs ++ [t]).length < 1000000 := by simp; omega
    have d5 : divOk 5 := divOk_s (by decide) (by decide)
    have d4 : divOk 4 := divOk_s (by decide) (by decide)
    refine ⟨⟨[.d (.v (.int c)), .d (.v (.int rk)), .d (.v (.int mr)), .own (.lst ((xs ++ [t]).map I)), .d (.v (.int (j : Nat))), x5, x6, x7, x8, x9], S⟩, rfl, ⟨[.d (.v (.int c)), .d (.v (.int rk)), .d (.v (.int mr)), .own (.lst ((xs ++ [t] ++ [fMin 900 (t + v)]).map I)), .d (.v (.int (j : Nat))), x5, x6, x7, x8, x9], S⟩, ?_, xs ++ [t], fMin 900 (t + v), .d (.v (.int (j : Nat))), rfl, by simp [hl], fun x hx => ?_⟩
    · simp only [flaw_door1b, runD, dD, dNil, dCons, dAnd, dOr, dNotT, dAndV, dOrV, dNotV, dIf, dTru, dCmpT, dSeq, dRet, dSet, dSetN, dIfS, dNx, dDrop, dOp, dNeg, dTup, dLst, dC, dK, dVar, okD, okN, frz, dCall, ofF, dAug, dPar, dApp, dChain, dListOf, dSlL, dRev,
  M.bind, M.pure, M.no, M.ne, dName, dUnit, dConsG, dTupG, gOr, gI, gS, gAdd, gSubI, gMul, gDiv, gMod, gPow, gIx, gLen, gAbs, gInt1, gSum, gAll, gAny, gMaxL, gMinL, gTupOf, g2I, gDm, gPart, gTru, gBool, gBoolO, gEq_pair, gEq_ints, gEq_sl1, gEq_sl2, opL, gEq_int, gEq_str, gEq_bl, gEq_non, gNone, gIn, gSign, gCat, gRep, gIsi,
  iLt, iLe, iGt, iGe, My.isNon, truD, tagD, seqD, lstD, rdlD, mutD, putL, tupD, vsD, rng1X, rng2X, enuX, zipX, seqX,
  Option.bind, Option.map, Option.bind_some, Option.map_some,
  List.map_cons, List.map_nil, List.length_cons, List.length_nil, List.nil_append, List.cons_append, List.replicate, List.getElem?_cons_zero, List.getElem?_cons_succ, List.set_cons_zero, List.set_cons_succ, List.append_nil,
  if_true, if_false, ite_true, ite_false, Nat.reduceAdd, Int.reduceToNat, Int.reducePow, Nat.reducePow, Int.reduceMul, Int.reduceAdd, Int.reduceSub, Int.reduceLT, Int.reduceLE, Nat.reduceMul, Int.cast_ofNat_Int, Nat.reduceSub, Nat.reduceLT, Nat.reduceLeDiff, ne_eq, reduceCtorEq, not_false_eq_true, not_true_eq_false, Int.reduceEq, Int.reduceNeg, Bool.false_eq_true, Bool.not_true, Bool.not_false, decide_true, decide_false, true_and, and_true, false_and, and_false, or_true, true_or, or_false, false_or, id_eq, Bool.true_eq_false, decide_eq_true_eq, Bool.not_eq_true', decide_eq_false_iff_not, Bool.not_not, blsD, List.all_cons, List.all_nil, List.any_cons, List.any_nil, Bool.and_self, Bool.and_true, Bool.or_false, dFor, dLc, itL, wipeD, backD, isi_NoneType_bool, isi_NoneType_int, isi_NoneType_str, isi_NoneType_tuple, isi_NoneType_list, isi_NoneType_dict, isi_bool_bool, isi_bool_int, isi_bool_str, isi_bool_tuple, isi_bool_list, isi_bool_dict, isi_int_bool, isi_int_int, isi_int_str, isi_int_tuple, isi_int_list, isi_int_dict, isi_str_bool, isi_str_int, isi_str_str, isi_str_tuple, isi_str_list, isi_str_dict, isi_tuple_bool, isi_tuple_int, isi_tuple_str, isi_tuple_tuple, isi_tuple_list, isi_tuple_dict, isi_list_bool, isi_list_int, isi_list_str, isi_list_tuple, isi_list_list, isi_list_dict, isi_dict_bool, isi_dict_int, isi_dict_str, isi_dict_tuple, isi_dict_list, isi_dict_dict, la, e, e3, d5, d4, List.length_map, z, app_int]
    · rcases List.mem_append.mp hx with h | h
      · exact ha x h
      · obtain rfl : x = fMin 900 (t + v) := by simpa using h
        unfold fMin
        split <;> omega)
  have hn : (rngD 0 ((mr.fdiv 200).fmod 12).toNat).length = ((mr.fdiv 200).fmod 12).toNat := by simp [rngD]
  exact ⟨xs ++ [t], ⟨by simp, by simp; omega, ha⟩, y4, e⟩
theorem door_ok (c : Int) (S : List Cell) : ∃ d : Dr, d.ok ∧ g_law_door [.v (.int c)] S = .ok d.d S := by
  obtain ⟨mr, hmr⟩ : ∃ mr, mr = c.fdiv 4 := ⟨_, rfl⟩
  have b10 := fmod_bd (c := c.fdiv 3) (m := 10) (by decide)
  obtain ⟨rk, e1, hr⟩ := pick (xs := [0, (c.fdiv 3).fmod 10]) (c := c) (m := 2) (P := fun v => 0 ≤ v ∧ v < 10) rfl (by decide) (by simp; omega)
  have e1 : atI [D.v (V.int 0), .v (.int ((c.fdiv 3).fmod 10))] (c.fmod 2) = some (.v (.int rk)) := e1
  have d2 : divOk 2 := divOk_s (by decide) (by decide)
  have d3 : divOk 3 := divOk_s (by decide) (by decide)
  have d4 : divOk 4 := divOk_s (by decide) (by decide)
  have d10 : divOk 10 := divOk_s (by decide) (by decide)
  by_cases h4 : c.fmod 4 < 2
  · have b12 := fmod_bd (c := mr.fdiv 200) (m := 12) (by decide)
    have q1 : -4611686018427387904 ≤ (mr.fdiv 200).fmod 12 := by omega
    have q2 : ((mr.fdiv 200).fmod 12).toNat < 4611686018427387904 := by omega
    have d12 : divOk 12 := divOk_s (by decide) (by decide)
    have d200 : divOk 200 := divOk_s (by decide) (by decide)
    obtain ⟨ts, ht, y4, e⟩ := door_at c mr rk hr S .no .no .no .no .no .no
    refine ⟨.at_ rk ts, ⟨hr, ht⟩, ?_⟩
    have z : (ts.map I).length ≤ 1000000 := by simp; omega
    rw [hmr] at e q1 q2
    simp only [List.map_cons, List.map_nil, I] at e
    simp only [g_law_door, den_law_door, Dr.d, doorA, runD, dD, dNil, dCons, dAnd, dOr, dNotT, dAndV, dOrV, dNotV, dIf, dTru, dCmpT, dSeq, dRet, dSet, dSetN, dIfS, dNx, dDrop, dOp, dNeg, dTup, dLst, dC, dK, dVar, okD, okN, frz, dCall, ofF, dAug, dPar, dApp, dChain, dListOf, dSlL, dRev,
  M.bind, M.pure, M.no, M.ne, dName, dUnit, dConsG, dTupG, gOr, gI, gS, gAdd, gSubI, gMul, gDiv, gMod, gPow, gIx, gLen, gAbs, gInt1, gSum, gAll, gAny, gMaxL, gMinL, gTupOf, g2I, gDm, gPart, gTru, gBool, gBoolO, gEq_pair, gEq_ints, gEq_sl1, gEq_sl2, opL, gEq_int, gEq_str, gEq_bl, gEq_non, gNone, gIn, gSign, gCat, gRep, gIsi,
  iLt, iLe, iGt, iGe, My.isNon, truD, tagD, seqD, lstD, rdlD, mutD, putL, tupD, vsD, rng1X, rng2X, enuX, zipX, seqX,
  Option.bind, Option.map, Option.bind_some, Option.map_some,
  List.map_cons, List.map_nil, List.length_cons, List.length_nil, List.nil_append, List.cons_append, List.replicate, List.getElem?_cons_zero, List.getElem?_cons_succ, List.set_cons_zero, List.set_cons_succ, List.append_nil,
  if_true, if_false, ite_true, ite_false, Nat.reduceAdd, Int.reduceToNat, Int.reducePow, Nat.reducePow, Int.reduceMul, Int.reduceAdd, Int.reduceSub, Int.reduceLT, Int.reduceLE, Nat.reduceMul, Int.cast_ofNat_Int, Nat.reduceSub, Nat.reduceLT, Nat.reduceLeDiff, ne_eq, reduceCtorEq, not_false_eq_true, not_true_eq_false, Int.reduceEq, Int.reduceNeg, Bool.false_eq_true, Bool.not_true, Bool.not_false, decide_true, decide_false, true_and, and_true, false_and, and_false, or_true, true_or, or_false, false_or, id_eq, Bool.true_eq_false, decide_eq_true_eq, Bool.not_eq_true', decide_eq_false_iff_not, Bool.not_not, blsD, List.all_cons, List.all_nil, List.any_cons, List.any_nil, Bool.and_self, Bool.and_true, Bool.or_false, dFor, dLc, itL, wipeD, backD, isi_NoneType_bool, isi_NoneType_int, isi_NoneType_str, isi_NoneType_tuple, isi_NoneType_list, isi_NoneType_dict, isi_bool_bool, isi_bool_int, isi_bool_str, isi_bool_tuple, isi_bool_list, isi_bool_dict, isi_int_bool, isi_int_int, isi_int_str, isi_int_tuple, isi_int_list, isi_int_dict, isi_str_bool, isi_str_int, isi_str_str, isi_str_tuple, isi_str_list, isi_str_dict, isi_tuple_bool, isi_tuple_int, isi_tuple_str, isi_tuple_tuple, isi_tuple_list, isi_tuple_dict, isi_list_bool, isi_list_int, isi_list_str, isi_list_tuple, isi_list_list, isi_list_dict, isi_dict_bool, isi_dict_int, isi_dict_str, isi_dict_tuple, isi_dict_list, isi_dict_dict, d2, d3, d4, d10, d12, d200, e1, h4, q1, q2, e, z]
  · have b101 := fmod_bd (c := mr) (m := 101) (by decide)
    have b20 := fmod_bd (c := mr.fdiv 404) (m := 20) (by decide)
    have b51 := fmod_bd (c := mr.fdiv 11) (m := 51) (by decide)
    have b901 := fmod_bd (c := mr.fdiv 23) (m := 901) (by decide)
    obtain ⟨s, s1, hs⟩ := pick (xs := [0, 100, mr.fmod 101, 13]) (c := mr.fdiv 101) (m := 4) (P := fun v => 0 ≤ v ∧ v ≤ 100) rfl (by decide) (by simp; omega)
    have s1 : atI [D.v (V.int 0), .v (.int 100), .v (.int (mr.fmod 101)), .v (.int 13)] ((mr.fdiv 101).fmod 4) = some (.v (.int s)) := s1
    obtain ⟨m, m1, hm⟩ := pick (xs := [1, 20, 1 + (mr.fdiv 404).fmod 20]) (c := mr.fdiv 7) (m := 3) (P := fun v => 1 ≤ v ∧ v ≤ 20) rfl (by decide) (by simp; omega)
    have m1 : atI [D.v (V.int 1), .v (.int 20), .v (.int (1 + (mr.fdiv 404).fmod 20))] ((mr.fdiv 7).fmod 3) = some (.v (.int m)) := m1
    obtain ⟨l, l1, hl⟩ := pick (xs := [0, 50, (mr.fdiv 11).fmod 51]) (c := mr.fdiv 13) (m := 3) (P := fun v => 0 ≤ v ∧ v ≤ 50) rfl (by decide) (by simp; omega)
    have l1 : atI [D.v (V.int 0), .v (.int 50), .v (.int ((mr.fdiv 11).fmod 51))] ((mr.fdiv 13).fmod 3) = some (.v (.int l)) := l1
    have bl := fmod_bd (c := mr.fdiv 17) (m := 51 - l) (by omega)
    obtain ⟨h, h1, hh⟩ := pick (xs := [l, 50, l + (mr.fdiv 17).fmod (51 - l)]) (c := mr.fdiv 19) (m := 3) (P := fun v => l ≤ v ∧ v ≤ 50) rfl (by decide) (by simp; omega)
    have h1 : atI [D.v (V.int l), .v (.int 50), .v (.int (l + (mr.fdiv 17).fmod (51 - l)))] ((mr.fdiv 19).fmod 3) = some (.v (.int h)) := h1
    obtain ⟨f, f1, hf⟩ := pick (xs := [0, 900, (mr.fdiv 23).fmod 901]) (c := mr.fdiv 29) (m := 3) (P := fun v => 0 ≤ v ∧ v ≤ 900) rfl (by decide) (by simp; omega)
    have f1 : atI [D.v (V.int 0), .v (.int 900), .v (.int ((mr.fdiv 23).fmod 901))] ((mr.fdiv 29).fmod 3) = some (.v (.int f)) := f1
    refine ⟨.dr rk s m l h f, ⟨hr, hs, hm, ⟨hl.1, hh⟩, hf⟩, ?_⟩
    have dl : (51 - l = 0) = False := by
      simp
      omega
    subst hmr
    have d101 : divOk 101 := divOk_s (by decide) (by decide)
    have d404 : divOk 404 := divOk_s (by decide) (by decide)
    have d20 : divOk 20 := divOk_s (by decide) (by decide)
    have d7 : divOk 7 := divOk_s (by decide) (by decide)
    have d11 : divOk 11 := divOk_s (by decide) (by decide)
    have d51 : divOk 51 := divOk_s (by decide) (by decide)
    have d13 : divOk 13 := divOk_s (by decide) (by decide)
    have d17 : divOk 17 := divOk_s (by decide) (by decide)
    have d19 : divOk 19 := divOk_s (by decide) (by decide)
    have d23 : divOk 23 := divOk_s (by decide) (by decide)
    have d901 : divOk 901 := divOk_s (by decide) (by decide)
    have d29 : divOk 29 := divOk_s (by decide) (by decide)
    simp only [g_law_door, den_law_door, Dr.d, doorD, runD, dD, dNil, dCons, dAnd, dOr, dNotT, dAndV, dOrV, dNotV, dIf, dTru, dCmpT, dSeq, dRet, dSet, dSetN, dIfS, dNx, dDrop, dOp, dNeg, dTup, dLst, dC, dK, dVar, okD, okN, frz, dCall, ofF, dAug, dPar, dApp, dChain, dListOf, dSlL, dRev,
  M.bind, M.pure, M.no, M.ne, dName, dUnit, dConsG, dTupG, gOr, gI, gS, gAdd, gSubI, gMul, gDiv, gMod, gPow, gIx, gLen, gAbs, gInt1, gSum, gAll, gAny, gMaxL, gMinL, gTupOf, g2I, gDm, gPart, gTru, gBool, gBoolO, gEq_pair, gEq_ints, gEq_sl1, gEq_sl2, opL, gEq_int, gEq_str, gEq_bl, gEq_non, gNone, gIn, gSign, gCat, gRep, gIsi,
  iLt, iLe, iGt, iGe, My.isNon, truD, tagD, seqD, lstD, rdlD, mutD, putL, tupD, vsD, rng1X, rng2X, enuX, zipX, seqX,
  Option.bind, Option.map, Option.bind_some, Option.map_some,
  List.map_cons, List.map_nil, List.length_cons, List.length_nil, List.nil_append, List.cons_append, List.replicate, List.getElem?_cons_zero, List.getElem?_cons_succ, List.set_cons_zero, List.set_cons_succ, List.append_nil,
  if_true, if_false, ite_true, ite_false, Nat.reduceAdd, Int.reduceToNat, Int.reducePow, Nat.reducePow, Int.reduceMul, Int.reduceAdd, Int.reduceSub, Int.reduceLT, Int.reduceLE, Nat.reduceMul, Int.cast_ofNat_Int, Nat.reduceSub, Nat.reduceLT, Nat.reduceLeDiff, ne_eq, reduceCtorEq, not_false_eq_true, not_true_eq_false, Int.reduceEq, Int.reduceNeg, Bool.false_eq_true, Bool.not_true, Bool.not_false, decide_true, decide_false, true_and, and_true, false_and, and_false, or_true, true_or, or_false, false_or, id_eq, Bool.true_eq_false, decide_eq_true_eq, Bool.not_eq_true', decide_eq_false_iff_not, Bool.not_not, blsD, List.all_cons, List.all_nil, List.any_cons, List.any_nil, Bool.and_self, Bool.and_true, Bool.or_false, dFor, dLc, itL, wipeD, backD, isi_NoneType_bool, isi_NoneType_int, isi_NoneType_str, isi_NoneType_tuple, isi_NoneType_list, isi_NoneType_dict, isi_bool_bool, isi_bool_int, isi_bool_str, isi_bool_tuple, isi_bool_list, isi_bool_dict, isi_int_bool, isi_int_int, isi_int_str, isi_int_tuple, isi_int_list, isi_int_dict, isi_str_bool, isi_str_int, isi_str_str, isi_str_tuple, isi_str_list, isi_str_dict, isi_tuple_bool, isi_tuple_int, isi_tuple_str, isi_tuple_tuple, isi_tuple_list, isi_tuple_dict, isi_list_bool, isi_list_int, isi_list_str, isi_list_tuple, isi_list_list, isi_list_dict, isi_dict_bool, isi_dict_int, isi_dict_str, isi_dict_tuple, isi_dict_list, isi_dict_dict, d2, d3, d4, d10, e1, h4, s1, m1, l1, h1, f1, dl, d101, d404, d20, d7, d11, d51, d13, d17, d19, d23, d901, d29]

theorem lg {i : Int} (h : 0 ≤ i ∧ i ≤ 900) : i.natAbs.log2 < 10 := log2_lt (by decide) (by omega)
theorem pwt {i : Int} (h : 0 ≤ i ∧ i ≤ 900) : (PyData.int i).weight ≤ 10 := by
  simp only [PyData.weight]
  have := lg h
  split <;> omega
theorem pls {i : Int} (h : 0 ≤ i ∧ i ≤ 900) : (PyData.int i).leavesShort 8 = true := by
  simp only [PyData.leavesShort, decide_eq_true_eq]
  show (Str.ofString (toString i)).length ≤ 8
  rw [ofString_length]
  have := int_text_length_le10 (a := i) (k := 4) (by decide) (by omega)
  omega
theorem psh {i : Int} (h : 0 ≤ i ∧ i ≤ 900) : (PyData.int i).showable = true := by
  simp only [PyData.showable, decide_eq_true_eq]
  have := lg h
  omega
theorem pds_ints : ∀ ts : List Int, pdsOf (ts.map I) = some (ts.map PyData.int)
  | [] => by simp only [List.map_nil, pdsOf]
  | t :: ts => by simp only [List.map_cons, I, pdsOf, pdOf, pds_ints ts]
theorem pall : ∀ {ts : List Int}, (∀ t ∈ ts, 0 ≤ t ∧ t ≤ 900) → PyData.weightAll (ts.map PyData.int) ≤ 11 * ts.length ∧ PyData.leavesShortAll 8 (ts.map PyData.int) = true ∧ PyData.showableAll (ts.map PyData.int) = true ∧ PyData.depthAll (ts.map PyData.int) = 0
  | [], _ => by simp [PyData.weightAll, PyData.leavesShortAll, PyData.showableAll, PyData.depthAll]
  | t :: ts, h => by
    obtain ⟨h1, h2, h3, h4⟩ := pall (ts := ts) fun x hx => h x (List.mem_cons_of_mem _ hx)
    have ht := h t List.mem_cons_self
    refine ⟨?_, ?_, ?_, ?_⟩
    · simp only [List.map_cons, PyData.weightAll, List.length_cons]
      have := pwt ht
      omega
    · simp only [List.map_cons, PyData.leavesShortAll, pls ht, h2, Bool.and_self]
    · simp only [List.map_cons, PyData.showableAll, psh ht, h3, Bool.and_self]
    · simp only [List.map_cons, PyData.depthAll, PyData.depth, h4]
      rfl
theorem repr_of {ds : List D} {ps : List PyData} (h : pdsOf ds = some ps) (h1 : PyData.showableAll ps = true) (h2 : PyData.depthAll ps ≤ 50) (h3 : PyData.leavesShortAll 8 ps = true) (h4 : PyData.weightAll ps ≤ 100000) : ∃ t, ∀ c, gRepr (.d (.tup ds)) c = .ok (.v (.str t)) c := by
  refine ⟨(PyData.tuple ps).shown, fun c => ?_⟩
  have e : pdOf (.tup ds) = some (.tuple ps) := by simp only [pdOf, h, Option.map]
  have z := PyData.shown_le 8 (by decide) (.tuple ps) (by simpa only [PyData.leavesShort] using h3)
  have w : (PyData.tuple ps).weight = PyData.weightAll ps := by simp only [PyData.weight]
  unfold gRepr
  dsimp only
  rw [e]
  dsimp only
  rw [if_pos ⟨by simpa only [PyData.showable] using h1, by simp only [PyData.depth]; omega, by omega⟩]
theorem ssz {x : Str} {n : Nat} (h : x.cps.size = n) : (PyData.str x).weight = n := by simp only [PyData.weight, h]
theorem repr_ok {d : Dr} (h : d.ok) : ∃ t, ∀ c, gRepr (.d d.d) c = .ok (.v (.str t)) c := by
  have wd : ("door" : Str).cps.size = 4 := by decide +kernel
  have wt : ("till" : Str).cps.size = 4 := by decide +kernel
  have wg : ("gate" : Str).cps.size = 4 := by decide +kernel
  have wa : ("at" : Str).cps.size = 2 := by decide +kernel
  have ww : ("draws" : Str).cps.size = 5 := by decide +kernel
  have wo : ("out" : Str).cps.size = 3 := by decide +kernel
  have ld : (PyData.str ("door" : Str)).leavesShort 8 = true := by simp only [PyData.leavesShort]; decide +kernel
  have lt : (PyData.str ("till" : Str)).leavesShort 8 = true := by simp only [PyData.leavesShort]; decide +kernel
  have lgt : (PyData.str ("gate" : Str)).leavesShort 8 = true := by simp only [PyData.leavesShort]; decide +kernel
  have la : (PyData.str ("at" : Str)).leavesShort 8 = true := by simp only [PyData.leavesShort]; decide +kernel
  have lw : (PyData.str ("draws" : Str)).leavesShort 8 = true := by simp only [PyData.leavesShort]; decide +kernel
  have lo : (PyData.str ("out" : Str)).leavesShort 8 = true := by simp only [PyData.leavesShort]; decide +kernel
  cases d with
  | at_ r ts =>
    obtain ⟨hr, h1, h2, ht⟩ := h
    have hr' : 0 ≤ r ∧ r ≤ 900 := by omega
    obtain ⟨a1, a2, a3, a4⟩ := pall ht
    refine repr_of (ps := [.str "door", .str "till", .int r, .tuple [.str "at", .tuple (ts.map PyData.int)], .str "out"]) (by simp only [pdsOf, pdOf, pds_ints, Option.map]) ?_ ?_ ?_ ?_
    · simp only [PyData.showableAll, PyData.showable, a3, Bool.and_self, Bool.and_true, Bool.true_and]
      exact decide_eq_true (by have := lg hr'; omega)
    · simp only [PyData.depthAll, PyData.depth, a4]
      decide
    · simp only [PyData.leavesShortAll, ld, lt, la, lo, pls hr', a2, Bool.and_self, PyData.leavesShort.eq_6]
    · have := pwt hr'
      simp only [PyData.weightAll, ssz wd, ssz wt, ssz wo]
      simp only [PyData.weight, PyData.weightAll, wa] at this ⊢
      omega
  | dr r s m l h2 f =>
    obtain ⟨hr, hs, hm, hl, hf⟩ := h
    have hr' : 0 ≤ r ∧ r ≤ 900 := by omega
    have hs' : 0 ≤ s ∧ s ≤ 900 := by omega
    have hm' : 0 ≤ m ∧ m ≤ 900 := by omega
    have hl' : 0 ≤ l ∧ l ≤ 900 := by omega
    have hh' : 0 ≤ h2 ∧ h2 ≤ 900 := by omega
    refine repr_of (ps := [.str "door", .str "gate", .int r, .tuple [.str "draws", .int s, .int m, .int l, .int h2, .int f], .str "out"]) (by simp only [pdsOf, pdOf, Option.map]) ?_ ?_ ?_ ?_
    · have q1 := psh hr'
      have q2 := psh hs'
      have q3 := psh hm'
      have q4 := psh hl'
      have q5 := psh hh'
      have q6 := psh hf
      simp only [PyData.showable] at q1 q2 q3 q4 q5 q6
      simp only [PyData.showableAll, PyData.showable, q1, q2, q3, q4, q5, q6, Bool.and_self, Bool.and_true, Bool.true_and]
    · simp only [PyData.depthAll, PyData.depth]
      decide
    · simp only [PyData.leavesShortAll, ld, lgt, lw, lo, pls hr', Bool.and_self, PyData.leavesShort.eq_6, pls hs', pls hm', pls hl', pls hh', pls hf]
    · have p1 := pwt hr'
      have p2 := pwt hs'
      have p3 := pwt hm'
      have p4 := pwt hl'
      have p5 := pwt hh'
      have p6 := pwt hf
      have q := ssz ww
      simp only [PyData.weightAll, ssz wd, ssz wg, ssz wo]
      simp only [PyData.weight, PyData.weightAll, ww] at p1 p2 p3 p4 p5 p6 ⊢
      omega
theorem ok_law_right (T : Tx K mg) (h_F__law_due : Okf P w K mg base 2 "_law_due" ["_law_door_here"] g_law_due) (h_F__law_whole : Okf P w K mg base 1 "_law_whole" ["_law_found"] g_law_whole) (h_F_comings : Okf P w K mg base 1 "comings" ["door"] g_comings) : Okf P w K mg base 3 "_law_right" ["_law_door_here"] g_law_right := (raw_law_right T h_F__law_due h_F__law_whole h_F_comings).by eq_law_right
abbrev slaw : Stmt := (top 10)
abbrev Nlaw : List Str := ["_law_script", "_law_k", "_law_door_here", "_law_other", "_law_copy"]
theorem sclaw : FnScope Nlaw ["_law_script"] (defScope slaw) := ⟨rfl, rfl, rfl, by decide +kernel, rfl, by decide +kernel, by decide +kernel⟩
noncomputable def flaw1b : M Fl :=
    (dSeq (dSet 2 (dCall g_law_door (dCons (dCall g_law_mixed (dCons (dCall g_law_cell_at (dCons (dD (dVar 0)) (dCons (dOp gMod (dVar 1) (dC (.int 4))) dNil))) (dCons (dD (dVar 1)) dNil))) dNil)))
    (dSeq (dSet 3 (dCall g_law_door (dCons (dCall g_law_mixed (dCons (dCall g_law_cell_at (dCons (dD (dVar 0)) (dCons (dOp gMod (okD (dOp gAdd (dVar 1) (dC (.int 1)))) (dC (.int 4))) dNil))) (dCons (dOp gAdd (dVar 1) (dC (.int 9))) dNil))) dNil)))
    (dSeq (dSet 4 (M.bind (dVar 2) gRepr))
    (dIfS (dOr (dNotT (dTru (okD (dCall g_law_right (dCons (dD (dVar 2)) dNil))))) (dOr (dNotT (dTru (okD (dCall g_law_right (dCons (dD (dVar 3)) dNil))))) (dOr (dCmpT (gEq true) (okD (dCall g_comings (dCons (dD (dVar 2)) dNil))) (okD (dCall g_law_due (dCons (dD (dVar 2)) dNil)))) (dCmpT (gEq true) (okD (M.bind (dVar 2) gRepr)) (dVar 4))))) (dRet (dD (dC (.bl false)))) dNx))))
noncomputable def den_law : M Fl :=
    (dSeq (dFor (M.bind (dCons (dD (dC (.int 6))) dNil) rng1X) (dName 1) flaw1b)
    (dRet (dD (dC (.bl true)))))
theorem raw_law (T : Tx K mg) (h_F__law_cell_at : Okf P w K mg base 1 "_law_cell_at" ["_law_script", "_law_k"] g_law_cell_at) (h_F__law_door : Okf P w K mg base 2 "_law_door" ["_law_cell"] g_law_door) (h_F__law_due : Okf P w K mg base 2 "_law_due" ["_law_door_here"] g_law_due) (h_F__law_mixed : Okf P w K mg base 1 "_law_mixed" ["_law_cell", "_law_k"] g_law_mixed) (h_F__law_right : Okf P w K mg base 3 "_law_right" ["_law_door_here"] g_law_right) (h_F_comings : Okf P w K mg base 1 "comings" ["door"] g_comings) {f : Addr} {fd : FuncData} (F : Fun K "law" "law" slaw f fd) : FnG P w K mg base (L2.CX P w) 4 f fd ["_law_script"] (spG K (runD 5 1 den_law)) := by
  have sc := sclaw
  exact fn_okG (N := Nlaw) F sc rfl (by decide) fun cdv A outer s H E hgd hr => ⟨_, ((bd_cons (sd_for (passes_of rfl) rfl (id_range1 (by rfl) T.n_range (ad_cons (ED.d ed_int) ad_nil)) (gd_name (i := 1) sc.nd rfl (by first | exact Or.inl rfl | exact Or.inr rfl)) (bd_cons (sd_set (i := 2) sc.nd rfl (by first | exact Or.inl rfl | exact Or.inr rfl) (dd_fn h_F__law_door (hr.mono (by decide)) (by rfl) (pol_of (takes_of rfl rfl rfl rfl)) (ad_cons (dd_fn h_F__law_mixed (hr.mono (by decide)) (by rfl) (pol_of (takes_of rfl rfl rfl rfl)) (ad_cons (dd_fn h_F__law_cell_at (hr.mono (by decide)) (by rfl) (pol_of (takes_of rfl rfl rfl rfl)) (ad_cons (ED.d (ed_var 0)) (ad_cons (dd_mod (ed_var 1) ed_int) ad_nil))) (ad_cons (ED.d (ed_var 1)) ad_nil))) ad_nil)))
    (bd_cons (sd_set (i := 3) sc.nd rfl (by first | exact Or.inl rfl | exact Or.inr rfl) (dd_fn h_F__law_door (hr.mono (by decide)) (by rfl) (pol_of (takes_of rfl rfl rfl rfl)) (ad_cons (dd_fn h_F__law_mixed (hr.mono (by decide)) (by rfl) (pol_of (takes_of rfl rfl rfl rfl)) (ad_cons (dd_fn h_F__law_cell_at (hr.mono (by decide)) (by rfl) (pol_of (takes_of rfl rfl rfl rfl)) (ad_cons (ED.d (ed_var 0)) (ad_cons (dd_mod (DD.e (dd_add (ed_var 1) ed_int)) ed_int) ad_nil))) (ad_cons (dd_add (ed_var 1) ed_int) ad_nil))) ad_nil)))
    (bd_cons (sd_set (i := 4) sc.nd rfl (by first | exact Or.inl rfl | exact Or.inr rfl) (dd_b1 (bRepr hgd (u66 hr)) (by rfl) T.n_repr (by decide +kernel) (ed_var 2)))
    (bd_one (sd_if (td_w (wd_or (td_not (td_val (DD.e (dd_fn h_F__law_right (hr.mono (by decide)) (by rfl) (pol_of (takes_of rfl rfl rfl rfl)) (ad_cons (ED.d (ed_var 2)) ad_nil))))) (wd_or (td_not (td_val (DD.e (dd_fn h_F__law_right (hr.mono (by decide)) (by rfl) (pol_of (takes_of rfl rfl rfl rfl)) (ad_cons (ED.d (ed_var 3)) ad_nil))))) (wd_or (td_cmp (cNe hr.units) (DD.e (dd_fn h_F_comings (hr.mono (by decide)) (by rfl) (pol_of (takes_of rfl rfl rfl rfl)) (ad_cons (ED.d (ed_var 2)) ad_nil))) (DD.e (dd_fn h_F__law_due (hr.mono (by decide)) (by rfl) (pol_of (takes_of rfl rfl rfl rfl)) (ad_cons (ED.d (ed_var 2)) ad_nil))) (nomark _)) (wd_or1 (td_cmp (cNe hr.units) (DD.e (dd_b1 (bRepr hgd (u66 hr)) (by rfl) T.n_repr (by decide +kernel) (ed_var 2))) (ed_var 4) (nomark _))))))) (bd_one (sd_ret (ED.d ed_bl))) bd_nil))))))
    (bd_one (sd_ret (ED.d ed_bl)))) : BD _ _ _ _ den_law)⟩

theorem turn_ok (ns : List Int) (k : Nat) (hk : k < 6) (s2 s3 s4 : Slot) (S : List Cell) : ∃ t2 t3 t4 S', flaw1b ⟨[.d (scr ns), .d (.v (.int (k : Nat))), s2, s3, s4], S⟩ = .ok .nx ⟨[.d (scr ns), .d (.v (.int (k : Nat))), t2, t3, t4], S'⟩ := by
  have z1 : 0 ≤ ((k : Nat) : Int) := by omega
  have d4 : divOk 4 := divOk_s (by decide) (by decide)
  obtain ⟨i, hi⟩ : ∃ i : Int, i = ((k : Nat) : Int) := ⟨_, rfl⟩
  rw [← hi] at z1 ⊢
  have hi6 : i < 6 := by omega
  have b1 := fmod_bd (c := i) (m := 4) (by decide)
  have b2 := fmod_bd (c := i + 1) (m := 4) (by decide)
  have e1 := gc ns (i.fmod 4) S b1.1
  have e2 := gc ns ((i + 1).fmod 4) S b2.1
  have e3 := gx (ns.getD (i.fmod 4).toNat 0) i S (by omega)
  have e4 := gx (ns.getD ((i + 1).fmod 4).toNat 0) (i + 9) S (by omega)
  obtain ⟨d1, h1, e5⟩ := door_ok (mixed (ns.getD (i.fmod 4).toNat 0) i) S
  obtain ⟨d2, h2, e6⟩ := door_ok (mixed (ns.getD ((i + 1).fmod 4).toNat 0) (i + 9)) S
  obtain ⟨x, e7⟩ := repr_ok h1
  obtain ⟨S1, e8⟩ := right_ok h1 S
  obtain ⟨S2, e9⟩ := right_ok h2 S1
  have ea := com_ok h1 S2
  have eb := due_ok h1 (S2 ++ [.lst (d1.due.map I)])
  have ec := fun (r : List Slot) => gEq_li (neg := true) (ms := d1.due) (r := r) (tl_get S2 (.lst (d1.due.map I)))
  generalize d1.due = xs at *
  refine ⟨.d d1.d, .d d2.d, .d (.v (.str x)), S2 ++ [.lst (xs.map I)], ?_⟩
  simp only [flaw1b, runD, dD, dNil, dCons, dAnd, dOr, dNotT, dAndV, dOrV, dNotV, dIf, dTru, dCmpT, dSeq, dRet, dSet, dSetN, dIfS, dNx, dDrop, dOp, dNeg, dTup, dLst, dC, dK, dVar, okD, okN, frz, dCall, ofF, dAug, dPar, dApp, dChain, dListOf, dSlL, dRev,
  M.bind, M.pure, M.no, M.ne, dName, dUnit, dConsG, dTupG, gOr, gI, gS, gAdd, gSubI, gMul, gDiv, gMod, gPow, gIx, gLen, gAbs, gInt1, gSum, gAll, gAny, gMaxL, gMinL, gTupOf, g2I, gDm, gPart, gTru, gBool, gBoolO, gEq_pair, gEq_ints, gEq_sl1, gEq_sl2, opL, gEq_int, gEq_str, gEq_bl, gEq_non, gNone, gIn, gSign, gCat, gRep, gIsi,
  iLt, iLe, iGt, iGe, My.isNon, truD, tagD, seqD, lstD, rdlD, mutD, putL, tupD, vsD, rng1X, rng2X, enuX, zipX, seqX,
  Option.bind, Option.map, Option.bind_some, Option.map_some,
  List.map_cons, List.map_nil, List.length_cons, List.length_nil, List.nil_append, List.cons_append, List.replicate, List.getElem?_cons_zero, List.getElem?_cons_succ, List.set_cons_zero, List.set_cons_succ, List.append_nil,
  if_true, if_false, ite_true, ite_false, Nat.reduceAdd, Int.reduceToNat, Int.reducePow, Nat.reducePow, Int.reduceMul, Int.reduceAdd, Int.reduceSub, Int.reduceLT, Int.reduceLE, Nat.reduceMul, Int.cast_ofNat_Int, Nat.reduceSub, Nat.reduceLT, Nat.reduceLeDiff, ne_eq, reduceCtorEq, not_false_eq_true, not_true_eq_false, Int.reduceEq, Int.reduceNeg, Bool.false_eq_true, Bool.not_true, Bool.not_false, decide_true, decide_false, true_and, and_true, false_and, and_false, or_true, true_or, or_false, false_or, id_eq, Bool.true_eq_false, decide_eq_true_eq, Bool.not_eq_true', decide_eq_false_iff_not, Bool.not_not, blsD, List.all_cons, List.all_nil, List.any_cons, List.any_nil, Bool.and_self, Bool.and_true, Bool.or_false, dFor, dLc, itL, wipeD, backD, isi_NoneType_bool, isi_NoneType_int, isi_NoneType_str, isi_NoneType_tuple, isi_NoneType_list, isi_NoneType_dict, isi_bool_bool, isi_bool_int, isi_bool_str, isi_bool_tuple, isi_bool_list, isi_bool_dict, isi_int_bool, isi_int_int, isi_int_str, isi_int_tuple, isi_int_list, isi_int_dict, isi_str_bool, isi_str_int, isi_str_str, isi_str_tuple, isi_str_list, isi_str_dict, isi_tuple_bool, isi_tuple_int, isi_tuple_str, isi_tuple_tuple, isi_tuple_list, isi_tuple_dict, isi_list_bool, isi_list_int, isi_list_str, isi_list_tuple, isi_list_list, isi_list_dict, isi_dict_bool, isi_dict_int, isi_dict_str, isi_dict_tuple, isi_dict_list, isi_dict_dict, dPut, dSt, dForA, dForX, d4, e1, e2, e3, e4, e5, e6, e7, e8, e9, ea, eb, ec]
theorem law_true (ns : List Int) (h : ns.length ≤ 63) : ∃ S, runD 5 1 den_law [scr ns] [] = .ok (.v (.bl true)) S := by
  obtain ⟨c', e, s1, s2, s3, s4, S, rfl⟩ := itF_invL (dg := dName 1) (db := flaw1b) (Inv := fun _ c' => ∃ s1 s2 s3 s4 S, c' = ⟨[.d (scr ns), s1, s2, s3, s4], S⟩) (rngD 0 6) ⟨[.d (scr ns), .no, .no, .no, .no], []⟩ ⟨_, _, _, _, _, rfl⟩ (by
    rintro j d _ hd ⟨s1, s2, s3, s4, S, rfl⟩
    obtain ⟨rfl, hj⟩ := rng_at hd
    rw [Int.zero_add]
    obtain ⟨t2, t3, t4, S', e⟩ := turn_ok ns j hj s2 s3 s4 S
    exact ⟨_, rfl, _, e, _, _, _, _, _, rfl⟩)
  refine ⟨S, ?_⟩
  have q1 : (-4611686018427387904 : Int) ≤ 6 := by decide
  have q2 : 6 < 4611686018427387904 := by decide
  simp only [den_law, runD, dD, dNil, dCons, dAnd, dOr, dNotT, dAndV, dOrV, dNotV, dIf, dTru, dCmpT, dSeq, dRet, dSet, dSetN, dIfS, dNx, dDrop, dOp, dNeg, dTup, dLst, dC, dK, dVar, okD, okN, frz, dCall, ofF, dAug, dPar, dApp, dChain, dListOf, dSlL, dRev,
  M.bind, M.pure, M.no, M.ne, dName, dUnit, dConsG, dTupG, gOr, gI, gS, gAdd, gSubI, gMul, gDiv, gMod, gPow, gIx, gLen, gAbs, gInt1, gSum, gAll, gAny, gMaxL, gMinL, gTupOf, g2I, gDm, gPart, gTru, gBool, gBoolO, gEq_pair, gEq_ints, gEq_sl1, gEq_sl2, opL, gEq_int, gEq_str, gEq_bl, gEq_non, gNone, gIn, gSign, gCat, gRep, gIsi,
  iLt, iLe, iGt, iGe, My.isNon, truD, tagD, seqD, lstD, rdlD, mutD, putL, tupD, vsD, rng1X, rng2X, enuX, zipX, seqX,
  Option.bind, Option.map, Option.bind_some, Option.map_some,
  List.map_cons, List.map_nil, List.length_cons, List.length_nil, List.nil_append, List.cons_append, List.replicate, List.getElem?_cons_zero, List.getElem?_cons_succ, List.set_cons_zero, List.set_cons_succ, List.append_nil,
  if_true, if_false, ite_true, ite_false, Nat.reduceAdd, Int.reduceToNat, Int.reducePow, Nat.reducePow, Int.reduceMul, Int.reduceAdd, Int.reduceSub, Int.reduceLT, Int.reduceLE, Nat.reduceMul, Int.cast_ofNat_Int, Nat.reduceSub, Nat.reduceLT, Nat.reduceLeDiff, ne_eq, reduceCtorEq, not_false_eq_true, not_true_eq_false, Int.reduceEq, Int.reduceNeg, Bool.false_eq_true, Bool.not_true, Bool.not_false, decide_true, decide_false, true_and, and_true, false_and, and_false, or_true, true_or, or_false, false_or, id_eq, Bool.true_eq_false, decide_eq_true_eq, Bool.not_eq_true', decide_eq_false_iff_not, Bool.not_not, blsD, List.all_cons, List.all_nil, List.any_cons, List.any_nil, Bool.and_self, Bool.and_true, Bool.or_false, dFor, dLc, itL, wipeD, backD, isi_NoneType_bool, isi_NoneType_int, isi_NoneType_str, isi_NoneType_tuple, isi_NoneType_list, isi_NoneType_dict, isi_bool_bool, isi_bool_int, isi_bool_str, isi_bool_tuple, isi_bool_list, isi_bool_dict, isi_int_bool, isi_int_int, isi_int_str, isi_int_tuple, isi_int_list, isi_int_dict, isi_str_bool, isi_str_int, isi_str_str, isi_str_tuple, isi_str_list, isi_str_dict, isi_tuple_bool, isi_tuple_int, isi_tuple_str, isi_tuple_tuple, isi_tuple_list, isi_tuple_dict, isi_list_bool, isi_list_int, isi_list_str, isi_list_tuple, isi_list_list, isi_list_dict, isi_dict_bool, isi_dict_int, isi_dict_str, isi_dict_tuple, isi_dict_list, isi_dict_dict, q1, q2, e]
end
theorem all_ok [en : Env] {P : Program} {w : World} {K : PySem.W.Frag} {mg : Str → Option Value} (T : Tx K mg) : ∃ f fd, mg "law" = some (.ref f) ∧ (∀ us : List Value, us.length = 1 → bindArgs fd ⟨us, []⟩ = pure ((["_law_script"] : List Str).zip us)) ∧ ∀ base : Heap, K.In base → base.Ns mainGlobals mg → FnG P w K mg base (L2.CX P w) 4 f fd ["_law_script"] (spG K (runD 5 1 den_law)) := by
  obtain ⟨f, fd, F, hm, hb⟩ := T.d_law
  refine ⟨f, fd, hm, hb, fun base _ _ => ?_⟩
  have h_F__law_cell_at := ok_law_cell_at (P := P) (w := w) (base := base) T 
  have h_F__law_mixed := ok_law_mixed (P := P) (w := w) (base := base) T 
  have h_F__law_numbers_behind := ok_law_numbers_behind (P := P) (w := w) (base := base) T 
  have h_F__law_whole := ok_law_whole (P := P) (w := w) (base := base) T 
  have h_F_comings := ok_comings (P := P) (w := w) (base := base) T 
  have h_F__law_door := ok_law_door (P := P) (w := w) (base := base) T h_F__law_mixed
  have h_F__law_due := ok_law_due (P := P) (w := w) (base := base) T h_F__law_numbers_behind
  have h_F__law_right := ok_law_right (P := P) (w := w) (base := base) T h_F__law_due h_F__law_whole h_F_comings
  exact raw_law T h_F__law_cell_at h_F__law_door h_F__law_due h_F__law_mixed h_F__law_right h_F_comings F
theorem fin {P : Program} {w : World} {K : PySem.W.Frag} {mg : Str → Option Value} {fa : Addr} (hmg : mg "law" = some (.ref fa)) (T : Tx K mg) (nd : ([] : List Addr).Nodup) : ∃ fd : FuncData, (∀ (s : Shared) (v : Value), BindsTo s fd ⟨[v], []⟩ [("_law_script", v)]) ∧ ∀ base : Heap, K.In base → base.Ns mainGlobals mg → FnG P w K mg base (L2.CX P w) 4 fa fd ["_law_script"] (spLaw 63 K) :=
  My.law_okG (law_true (en := ⟨nd⟩)) hmg (all_ok (en := ⟨nd⟩) T)
end Law
open PySem PySem.W PyProof.Rows
set_option maxRecDepth 100000 in
set_option maxHeartbeats 0 in
theorem PySem.Challenge.cw_hallclock_k13_turns_of_comings_holds : PySem.Challenge.rw_hallclock_k13_turns_of_comings.Holds := by
  w_on; o_law; k_head; (case hw => w_witness2)
  k_fill
  refine My.walk_ofG (l := PySem.Challenge.rw_hallclock_k13_turns_of_comings) (n := 63) (k := 4) (x := "_law_script") (sp := fun w => My.spLaw 63 _) rfl (by decide) rfl ⟨rfl, by decide, by decide⟩ (fun w h Y => by first | exact PySem.W.kIn_of Y | exact PySem.W.km_in_of Y) ?F (fun _ _ a ns hl hS => ⟨a, ns, rfl, hS, hl, fun _ => rfl⟩)
  case F =>
    intro w mg fa h KX G hmg
    refine' Law.fin hmg { d_law_cell_at := My.has_of KX G (fun _ _ _ _ _ _ us hl => match us, hl with | [_, _], _ => rfl) ?ad_law_cell_at ?ld_law_cell_at ?cd_law_cell_at ?kd_law_cell_at, d_law_mixed := My.has_of KX G (fun _ _ _ _ _ _ us hl => match us, hl with | [_, _], _ => rfl) ?ad_law_mixed ?ld_law_mixed ?cd_law_mixed ?kd_law_mixed, d_law_numbers_behind := My.has_of KX G (fun _ _ _ _ _ _ us hl => match us, hl with | [_, _], _ => rfl) ?ad_law_numbers_behind ?ld_law_numbers_behind ?cd_law_numbers_behind ?kd_law_numbers_behind, d_law_whole := My.has_of KX G (fun _ _ _ _ _ _ us hl => match us, hl with | [_], _ => rfl) ?ad_law_whole ?ld_law_whole ?cd_law_whole ?kd_law_whole, d_comings := My.has_of KX G (fun _ _ _ _ _ _ us hl => match us, hl with | [_], _ => rfl) ?ad_comings ?ld_comings ?cd_comings ?kd_comings, d_law_door := My.has_of KX G (fun _ _ _ _ _ _ us hl => match us, hl with | [_], _ => rfl) ?ad_law_door ?ld_law_door ?cd_law_door ?kd_law_door, d_law_due := My.has_of KX G (fun _ _ _ _ _ _ us hl => match us, hl with | [_], _ => rfl) ?ad_law_due ?ld_law_due ?cd_law_due ?kd_law_due, d_law_right := My.has_of KX G (fun _ _ _ _ _ _ us hl => match us, hl with | [_], _ => rfl) ?ad_law_right ?ld_law_right ?cd_law_right ?kd_law_right, d_law := My.has_of KX G (fun _ _ _ _ _ _ us hl => match us, hl with | [_], _ => rfl) ?ad_law ?ld_law ?cd_law ?kd_law, n_bool := PySem.W.mg_none_of KX G ?n_bool, n_int := PySem.W.mg_none_of KX G ?n_int, n_isinstance := PySem.W.mg_none_of KX G ?n_isinstance, n_len := PySem.W.mg_none_of KX G ?n_len, n_list := PySem.W.mg_none_of KX G ?n_list, n_max := PySem.W.mg_none_of KX G ?n_max, n_min := PySem.W.mg_none_of KX G ?n_min, n_range := PySem.W.mg_none_of KX G ?n_range, n_repr := PySem.W.mg_none_of KX G ?n_repr, n_tuple := PySem.W.mg_none_of KX G ?n_tuple } ?nd
    (case ad_law_cell_at => k_is)
    (case ld_law_cell_at => k_is)
    (case cd_law_cell_at => k_is)
    (case kd_law_cell_at => k_is)
    (case ad_law_mixed => k_is)
    (case ld_law_mixed => k_is)
    (case cd_law_mixed => k_is)
    (case kd_law_mixed => k_is)
    (case ad_law_numbers_behind => k_is)
    (case ld_law_numbers_behind => k_is)
    (case cd_law_numbers_behind => k_is)
    (case kd_law_numbers_behind => k_is)
    (case ad_law_whole => k_is)
    (case ld_law_whole => k_is)
    (case cd_law_whole => k_is)
    (case kd_law_whole => k_is)
    (case ad_comings => k_is)
    (case ld_comings => k_is)
    (case cd_comings => k_is)
    (case kd_comings => k_is)
    (case ad_law_door => k_is)
    (case ld_law_door => k_is)
    (case cd_law_door => k_is)
    (case kd_law_door => k_is)
    (case ad_law_due => k_is)
    (case ld_law_due => k_is)
    (case cd_law_due => k_is)
    (case kd_law_due => k_is)
    (case ad_law_right => k_is)
    (case ld_law_right => k_is)
    (case cd_law_right => k_is)
    (case kd_law_right => k_is)
    (case ad_law => k_is)
    (case ld_law => k_is)
    (case cd_law => k_is)
    (case kd_law => k_is)
    (case n_bool => k_is)
    (case n_int => k_is)
    (case n_isinstance => k_is)
    (case n_len => k_is)
    (case n_list => k_is)
    (case n_max => k_is)
    (case n_min => k_is)
    (case n_range => k_is)
    (case n_repr => k_is)
    (case n_tuple => k_is)
    (case nd => decide +kernel)
